import PyProof.Rows.All
import HandS.ForMost
import HandS.ForExc
import HandS.Conv
import HandS.FStr
import HandS.Strs
import HandS.TupLen
import HandS.Deep
import HandS.SortInts
import KE.KDictKeyed
import KE.SortData
import KE.DataMinMax
import KE.DataCmp
import HandS.Style
import PyProof.StrOps2
import HandS.TupAny
import HandS.TupLe
import HandS.IsInst
import HandS.ExcIs
import KE.DataFind
import HandS.Text
import HandS.More
import HandS.SetFor
import HandS.CallRecv
import HandS.HeadWalk
import HandS.NamedTupGet
import HandS.EndTab
import HandS.HeadHook1
import HandS.Head0
import HandS.Head1
import HandS.Head2
import HandS.HeadEnd
import PySem.Challenge.RW_windowlows_k11_whole_lesser
set_option Elab.async false
set_option linter.all false
set_option maxRecDepth 100000
set_option maxHeartbeats 1000000
namespace Wl
open PySem PySem.Spec PyProof.Rows L2
/-! ### keys that are data -/
mutual
def nkD : PyData → Option NestedKey
  | .int i => some (.num i)
  | .bool b => some (.num (if b = true then 1 else 0))
  | .tuple xs => match nksD xs with
    | some ks => some (.tup ks)
    | none => none
  | _ => none
def nksD : List PyData → Option (List NestedKey)
  | [] => some []
  | x :: xs => match nkD x, nksD xs with
    | some k, some ks => some (k :: ks)
    | _, _ => none
end
theorem nksD_cons {x : PyData} {xs : List PyData} {ks : List NestedKey} (h : nksD (x :: xs) = some ks) : ∃ k r, nkD x = some k ∧ nksD xs = some r ∧ ks = k :: r := by
  unfold nksD at h
  split at h
  · cases h
    exact ⟨_, _, by assumption, by assumption, rfl⟩
  · cases h
theorem nkD_tup {xs : List PyData} {k : NestedKey} (h : nkD (.tuple xs) = some k) : ∃ ks, nksD xs = some ks ∧ k = .tup ks := by
  unfold nkD at h
  split at h
  · cases h
    exact ⟨_, by assumption, rfl⟩
  · cases h
mutual
theorem nk_is {h : Heap} : ∀ (d : PyData) (k : NestedKey) (v : Value) (as : List Addr), nkD d = some k → Reads h v d as → NestedIs h k v
  | .int i, _, _, _, e, r => by
    cases e
    cases r
    exact .int i _
  | .bool b, _, _, _, e, r => by
    cases e
    cases r
    exact .bool rfl
  | .tuple xs, _, _, _, e, r => by
    obtain ⟨ks, e1, rfl⟩ := nkD_tup e
    cases r with
    | tuple h1 h2 h3 h4 => exact .tup h1 h2 h3 (nks_is xs ks _ _ e1 h4)
  | .none, _, _, _, e, _ => by cases e
  | .str _, _, _, _, e, _ => by cases e
  | .list _, _, _, _, e, _ => by cases e
  | .dict _, _, _, _, e, _ => by cases e
theorem nks_is {h : Heap} : ∀ (ds : List PyData) (ks : List NestedKey) (vs : List Value) (as : List Addr), nksD ds = some ks → ReadsAll h vs ds as → NestedAll h ks vs
  | [], _, _, _, e, r => by
    cases e
    cases r
    exact .nil
  | d :: ds, _, _, _, e, r => by
    obtain ⟨k, ks, e1, e2, rfl⟩ := nksD_cons e
    cases r with
    | cons r1 r2 => exact .cons (nk_is d k _ _ e1 r1) (nks_is ds ks _ _ e2 r2)
end
mutual
def nh : NestedKey → Int
  | .none => 0
  | .num i => hashInt i
  | .text _ => 0
  | .tup ks => reduceHash (Builtin.Tuple.tupleHashOf (nhs ks))
def nhs : List NestedKey → List Int
  | [] => []
  | k :: ks => nh k :: nhs ks
end
mutual
theorem nh_eq (w : World) : ∀ (d : PyData) (k : NestedKey), nkD d = some k → k.hash w = nh k
  | .int i, _, e => by
    cases e
    rfl
  | .bool b, _, e => by
    cases e
    rfl
  | .tuple xs, _, e => by
    obtain ⟨ks, e1, rfl⟩ := nkD_tup e
    rw [NestedKey.hash, nh, nhs_eq w xs ks e1]
  | .none, _, e => by cases e
  | .str _, _, e => by cases e
  | .list _, _, e => by cases e
  | .dict _, _, e => by cases e
theorem nhs_eq (w : World) : ∀ (ds : List PyData) (ks : List NestedKey), nksD ds = some ks → NestedKey.hashes w ks = nhs ks
  | [], _, e => by
    cases e
    rfl
  | d :: ds, _, e => by
    obtain ⟨k, ks, e1, e2, rfl⟩ := nksD_cons e
    rw [NestedKey.hashes, nhs, nh_eq w d k e1, nhs_eq w ds ks e2]
end
/-! ### a dict whose keys are tuples, nested -/
abbrev XE : Type := NestedKey × Addr × V
def YR : List XE → List (NestedKey × Addr × Value) → Prop := Paired fun x y => x.1 = y.1 ∧ x.2.1 = y.2.1 ∧ RelV x.2.2 y.2.2
def entN (y : NestedKey × Addr × Value) : DictEntry := ⟨nh y.1, .ref y.2.1, y.2.2⟩
def dctP (a : Addr) (xs : List XE) : Heap → Prop := fun h => (a == sysModules) = false ∧ xs.length ≤ sizeLine ∧ ∃ (ys : List (NestedKey × Addr × Value)) (o : Obj) (es : Array DictEntry) (ep : Nat), YR xs ys ∧ h.get? a = some o ∧ o.ExactDict ∧ o.data = .dict es ep ∧ es.toList = ys.map entN ∧ (ys.map (·.1)).Nodup
abbrev dctO (a : Addr) (xs : List XE) : HO := .ext (dctP a xs)
/-- what stands at b is the key k -/
def KyR (K : PySem.W.Frag) (H : Hp) (b : Addr) (k : NestedKey) : Prop := k.depth ≤ 8 ∧ ∃ d, nkD d = some k ∧ Dp K H (.ref b) d
def KysR (K : PySem.W.Frag) (H : Hp) (xs : List XE) : Prop := ∀ x ∈ xs, KyR K H x.2.1 x.1
def atX (xs : List XE) (k : NestedKey) : Option V := (xs.find? fun x => decide (x.1 = k)).map (·.2.2)
def putX (xs : List XE) (k : NestedKey) (b : Addr) (v : V) : List XE := if (atX xs k).isSome then xs.map (fun x => if x.1 = k then (x.1, x.2.1, v) else x) else xs ++ [(k, b, v)]
theorem YR.length {xs : List XE} {ys : List (NestedKey × Addr × Value)} (h : YR xs ys) : xs.length = ys.length := Paired.length h
theorem YR.at {k : NestedKey} : ∀ {xs : List XE} {ys : List (NestedKey × Addr × Value)}, YR xs ys → RelO (atX xs k) ((atKey ys k).map (·.2))
  | _, _, .nil => trivial
  | x :: xs, y :: ys, .cons ⟨h1, h2, h3⟩ t => by
    by_cases e : x.1 = k
    · have e' : y.1 = k := h1 ▸ e
      have a1 : atX (x :: xs) k = some x.2.2 := by simp [atX, List.find?_cons, e]
      have a2 : atKey (y :: ys) k = some y.2 := by simp [atKey, List.find?_cons, e']
      rw [a1, a2]
      exact h3
    · have e' : ¬ y.1 = k := fun z => e (h1.trans z)
      have a1 : atX (x :: xs) k = atX xs k := by simp [atX, List.find?_cons, e]
      have a2 : atKey (y :: ys) k = atKey ys k := by simp [atKey, List.find?_cons, e']
      rw [a1, a2]
      exact YR.at t
theorem YR.map {k : NestedKey} {v : V} {u : Value} (rv : RelV v u) : ∀ {xs : List XE} {ys : List (NestedKey × Addr × Value)}, YR xs ys → YR (xs.map fun x => if x.1 = k then (x.1, x.2.1, v) else x) (ys.map (putAt k u))
  | _, _, .nil => .nil
  | x :: xs, y :: ys, .cons ⟨h1, h2, h3⟩ t => by
    rw [List.map_cons, List.map_cons]
    refine .cons ?_ (YR.map rv t)
    unfold putAt
    by_cases e : x.1 = k
    · rw [if_pos e, if_pos (h1 ▸ e)]
      exact ⟨h1, h2, rv⟩
    · rw [if_neg e, if_neg fun z => e (h1.trans z)]
      exact ⟨h1, h2, h3⟩
theorem YR.put {xs : List XE} {ys : List (NestedKey × Addr × Value)} {k : NestedKey} {b : Addr} {v : V} {u : Value} (r : YR xs ys) (rv : RelV v u) : YR (putX xs k b v) (storedH ys k b u) := by
  have q := (YR.at (k := k) r).isSome_eq
  rw [Option.isSome_map] at q
  unfold putX storedH
  rw [q]
  by_cases e : (atKey ys k).isSome = true
  · rw [if_pos e, if_pos e]
    exact YR.map rv r
  · rw [if_neg e, if_neg e]
    exact Paired.snoc r ⟨rfl, rfl, rv⟩
theorem putX_len (xs : List XE) (k : NestedKey) (b : Addr) (v : V) : (putX xs k b v).length ≤ xs.length + 1 := by
  unfold putX
  split
  · rw [List.length_map]
    omega
  · simp
section
variable {X : Cx} {pins : List (Addr × Obj)} {σ : L2.St} {H : Hp} {s : Shared} {a b : Addr} {xs : List XE} {k : NestedKey} {A : Around} {E : Value → Shared → Prop}
theorem KyR.is (I : Inv X pins σ H s) (h : KyR X.K H b k) : (nestedKind X.prog X.w).is s.heap k b := by
  obtain ⟨hd, d, e, r⟩ := h
  obtain ⟨as, q⟩ := Dp.reads I d _ (.ref b) r rfl
  exact ⟨nk_is d k _ _ e q, hd⟩
theorem KyR.hash {K : PySem.W.Frag} (w : World) (h : KyR K H b k) : k.hash w = nh k := by
  obtain ⟨_, d, e, _⟩ := h
  exact nh_eq w d k e
theorem dct_of (I : Inv X pins σ H s) (h : H a = some (dctO a xs)) (hk : KysR X.K H xs) : (a == sysModules) = false ∧ xs.length ≤ sizeLine ∧ ∃ ys, YR xs ys ∧ s.heap.DictOfH (nestedKind X.prog X.w) a ys := by
  have z : ObjOk X.prog X.w H s.heap a (.ext (dctP a xs)) := I.hok a _ h
  obtain ⟨⟨h1, h2, ys, o, es, ep, r, h3, h4, h5, h6, h7⟩, _⟩ := z
  refine ⟨h1, h2, ys, r, o, es, ep, h3, h4, h5, ?_, ?_, h7⟩
  · rw [h6]
    have all : ∀ {l : List XE} {m : List (NestedKey × Addr × Value)}, YR l m → KysR X.K H l → m.map entN = m.map (entryOfKey (nestedKind X.prog X.w)) := by
      intro l m q
      induction q with
      | nil => intro _; rfl
      | @cons p q ps qs hq t ih =>
        intro hk
        rw [List.map_cons, List.map_cons, ih fun x hx => hk x (List.mem_cons_of_mem _ hx)]
        congr 1
        have e : p.1.hash X.w = nh p.1 := (hk p (by simp)).hash X.w
        show (⟨nh q.1, .ref q.2.1, q.2.2⟩ : DictEntry) = ⟨q.1.hash X.w, .ref q.2.1, q.2.2⟩
        rw [← hq.1, e]
    exact all r hk
  · have all : ∀ {l : List XE} {m : List (NestedKey × Addr × Value)}, YR l m → KysR X.K H l → ∀ y ∈ m, (nestedKind X.prog X.w).is s.heap y.1 y.2.1 := by
      intro l m q
      induction q with
      | nil => intro _ y hy; exact nomatch hy
      | @cons p q ps qs hq t ih =>
        intro hk y hy
        rcases List.mem_cons.mp hy with e | e
        · subst e
          have := (hk p (by simp)).is I
          rw [hq.1, hq.2.1] at this
          exact this
        · exact ih (fun x hx => hk x (List.mem_cons_of_mem _ hx)) y e
    exact all r hk
theorem dctP_stay {a : Addr} {xs : List XE} : ∀ h1 h2 : Heap, dctP a xs h1 → (∀ o, h1.get? a = some o → h2.get? a = some o) → dctP a xs h2 := by
  rintro h1 h2 ⟨p1, p2, ys, o, es, ep, r, p3, p4⟩ k
  exact ⟨p1, p2, ys, o, es, ep, r, k _ p3, p4⟩
theorem dct_ok {P : Program} {w : World} {H : Hp} {h : Heap} {a : Addr} {xs : List XE} (p : dctP a xs h) : ObjOk P w H h a (dctO a xs) := by
  obtain ⟨p1, p2, ys, o, es, ep, r, p3, p4⟩ := id p
  exact ⟨p, ⟨o, p3⟩, dctP_stay⟩
/-- behind a store -/
theorem dctP_of {P : Program} {w : World} {h : Heap} {a : Addr} {xs : List XE} {ys : List (NestedKey × Addr × Value)} (h1 : (a == sysModules) = false) (h2 : xs.length ≤ sizeLine) (r : YR xs ys) (hk : ∀ x ∈ xs, x.1.hash w = nh x.1) (d : h.DictOfH (nestedKind P w) a ys) : dctP a xs h := by
  obtain ⟨o, es, ep, h3, h4, h5, h6, _, h7⟩ := d
  refine ⟨h1, h2, ys, o, es, ep, r, h3, h4, h5, ?_, h7⟩
  rw [h6]
  have all : ∀ {l : List XE} {m : List (NestedKey × Addr × Value)}, YR l m → (∀ x ∈ l, x.1.hash w = nh x.1) → m.map (entryOfKey (nestedKind P w)) = m.map entN := by
    intro l m q
    induction q with
    | nil => intro _; rfl
    | @cons p q ps qs hq t ih =>
      intro hk
      rw [List.map_cons, List.map_cons, ih fun x hx => hk x (List.mem_cons_of_mem _ hx)]
      congr 1
      show (⟨q.1.hash w, .ref q.2.1, q.2.2⟩ : DictEntry) = ⟨nh q.1, .ref q.2.1, q.2.2⟩
      rw [← hq.1, hk p (by simp)]
  exact all r hk
theorem roomN (hu : X.A.units + 65 < cLine) : (nestedKind X.prog X.w).room X.A.in1 := by
  show X.A.units + 1 + 8 < cLine
  omega
def rDinN (K : PySem.W.Frag) (n : Bool) : R2 := fun x y H Q => ∃ a b xs k, x = .ref b ∧ y = .ref a ∧ H a = some (dctO a xs) ∧ KysR K H xs ∧ KyR K H b k ∧ Q (.bl (if n then !(atX xs k).isSome else (atX xs k).isSome)) H
theorem op_dinN (hu : X.A.units + 65 < cLine) : OpR X (compareOp .In) (rDinN X.K false) := by
  intro pins s σ H x y v u Q I rx ry h
  obtain ⟨a, b, xs, k, rfl, rfl, ha, hk, hb, q⟩ := h
  cases rx
  cases ry
  obtain ⟨h1, h2, ys, r, dd⟩ := dct_of I ha hk
  refine wpAny_in_heap (roomN hu) (hb.is I) h1 dd ?_
  have e := (YR.at (k := k) r).isSome_eq
  rw [Option.isSome_map] at e
  rw [← e]
  exact ⟨.bl _, H, I.tok _, rfl, q⟩
theorem op_dninN (hu : X.A.units + 65 < cLine) : OpR X (compareOp .NotIn) (rDinN X.K true) := by
  intro pins s σ H x y v u Q I rx ry h
  obtain ⟨a, b, xs, k, rfl, rfl, ha, hk, hb, q⟩ := h
  cases rx
  cases ry
  obtain ⟨h1, h2, ys, r, dd⟩ := dct_of I ha hk
  refine wpAny_notIn_heap (roomN hu) (hb.is I) h1 dd ?_
  have e := (YR.at (k := k) r).isSome_eq
  rw [Option.isSome_map] at e
  rw [← e]
  exact ⟨.bl _, H, I.tok _, rfl, q⟩
def rDgetN (K : PySem.W.Frag) : R2 := fun x y H Q => ∃ a b xs k v, x = .ref a ∧ y = .ref b ∧ H a = some (dctO a xs) ∧ KysR K H xs ∧ KyR K H b k ∧ atX xs k = some v ∧ Q v H
theorem pe_dgetN {o i : Expr} {td ti : TE} {pos : Pos} (hu : X.A.units + 65 < cLine) (ho : PE X o td) (hi : PE X i ti) (hs : NoSl i) : PE X (.Subscript o i pos) (tOp (rDgetN X.K) td ti) := by
  refine ⟨fun pins s σ H Q I h => ?_⟩
  refine subD_of PySem.F.slot_dict_getitem.lookup hs (thn (ho.run pins s σ H _ I h) fun u s1 ⟨x, H1, I1, rx, q1⟩ => thn (hi.run pins s1 σ H1 _ I1 q1) fun iv s2 ⟨y, H2, I2, ry, a, b, xs, k, v, ex, ey, ha, hk, hb, hv, q2⟩ => ?_)
  subst ex ey
  cases rx
  cases ry
  obtain ⟨h1, h2, ys, r, dd⟩ := dct_of I2 ha hk
  refine ⟨dd.typeIs, ?_⟩
  obtain ⟨w', hw, rw'⟩ := RelO.some_of (v := v) (o := (atKey ys k).map (·.2)) (by rw [← hv]; exact YR.at r)
  obtain ⟨p, hp, rfl⟩ := Option.map_eq_some_iff.mp hw
  exact wpAny_getItem_heap (roomN hu) (hb.is I2) dd hp ⟨v, H2, I2.tok _, rw', q2⟩
def rDputN (K : PySem.W.Frag) : V → V → V → Hp → (Hp → Prop) → Prop := fun o i v H Q => ∃ a b xs k, o = .ref a ∧ i = .ref b ∧ H a = some (dctO a xs) ∧ KysR K H xs ∧ KyR K H b k ∧ xs.length < sizeLine ∧ Q (upd H a (dctO a (putX xs k b v)))
theorem set_dN (hu : X.A.units + 65 < cLine) : PSet X (rDputN X.K) := by
  intro pins s σ H o i v ov iv u Q I ro ri rv h
  obtain ⟨a, b, xs, k, rfl, rfl, ha, hk, hb, hl, q⟩ := h
  cases ro
  cases ri
  obtain ⟨h1, h2, ys, r, dd⟩ := dct_of I ha hk
  refine wpAny_setItem_heap (hsz := by rw [← r.length]; exact h2) (roomN hu) (hb.is I) dd fun h' dd' hs => ⟨_, ?_, q⟩
  have he : ∃ q, h'.get? a = some q := let ⟨q, _, _, hq, _⟩ := dd'; ⟨q, hq⟩
  refine d_write I (by rw [ha]; exact True.intro) hs he (dct_ok (dctP_of (P := X.prog) (w := X.w) h1 ?_ (r.put rv) (fun x hx => ?_) dd'))
  · have := putX_len xs k b v
    omega
  · unfold putX at hx
    split at hx
    · obtain ⟨z, hz, rfl⟩ := List.mem_map.mp hx
      split
      · exact (hk z hz).hash X.w
      · exact (hk z hz).hash X.w
    · rcases List.mem_append.mp hx with hx | hx
      · exact (hk x hx).hash X.w
      · have e : x = (k, b, v) := by simpa using hx
        rw [e]
        exact hb.hash X.w
def rLenN : List V → Hp → VK → Prop := fun vs H Q => ∃ (a : Addr) (xs : List XE), vs = [.ref a] ∧ H a = some (dctO a xs) ∧ Q (.int ((xs.length : Nat) : Int)) H
theorem call_lenN : CallR X (.builtin "len") (fun vs H Q => ∃ (a : Addr) (xs : List XE), vs = [.ref a] ∧ H a = some (dctO a xs) ∧ KysR X.K H xs ∧ Q (.int ((xs.length : Nat) : Int)) H) := by
  intro pins s σ H vs us Q I r h
  obtain ⟨p, xs, rfl, hp, hk, q⟩ := h
  obtain ⟨u, rfl, rx⟩ := vals1 r
  obtain rfl : u = .ref p := rx
  obtain ⟨hd, z, ys, rel, dd⟩ := dct_of I hp hk
  have hl : xs.length = ys.length := rel.length
  refine call_len_dictH hd dd (by rw [← hl]; rw [sizeLine_eq] at z; omega) ?_
  rw [← hl]
  exact ⟨.int ((xs.length : Nat) : Int), H, I.tok _, ⟨_, rfl⟩, q⟩
def tDGet2N (K : PySem.W.Frag) (td ty tx : TE) : TE := fun σ H Q => td σ H fun x H1 => (∃ a xs, x = .ref a ∧ H1 a = some (dctO a xs) ∧ KysR K H1 xs) ∧ ty σ H1 fun y H2 => tx σ H2 fun z H3 => ∃ a b xs k, x = .ref a ∧ y = .ref b ∧ H3 a = some (dctO a xs) ∧ KysR K H3 xs ∧ KyR K H3 b k ∧ Q ((atX xs k).getD z) H3
theorem pe_dget2N {o e f : Expr} {td ty tx : TE} {apos cpos : Pos} (hu : X.A.units + 65 < cLine) (ho : PE X o td) (he : PE X e ty) (hf : PE X f tx) (m : M2 X o "get" apos e f cpos) : PE X (.Call (.Attribute o "get" apos) [e, f] [] cpos) (tDGet2N X.K td ty tx) := by
  refine ⟨fun pins s σ H Q I h => ?_⟩
  refine wpAny_Call_method m.base m.few m.line PySem.F.plainAttrs_dict PySem.F.slot_dict_get PySem.F.type_dict_get (thn (ho.run pins s σ H _ I h) fun u s1 ⟨x, H1, I1, rx, ⟨a0, xs0, ex, ha0, hk0⟩, q1⟩ => ?_)
  subst ex
  cases rx
  obtain ⟨hd, z, ys, rel, dd⟩ := dct_of I1 ha0 hk0
  refine ⟨dd.typeIs, fun b q => ?_, ?_⟩
  · cases q
    obtain ⟨ob, _, _, h1, h2, _⟩ := dd
    exact ⟨ob, h1, h2.2.1⟩
  rw [m.trees]
  refine Calls.callWith_builtin rfl (Calls.evalArgs_plain (Calls.spliced_cons (thn (he.run pins s1 σ H1 _ I1 q1) fun iv s2 ⟨y, H2, I2, ry, q2⟩ =>
    Calls.spliced_cons (thn (hf.run pins s2 σ H2 _ I2 q2) fun fv s3 ⟨z, H3, I3, rz, a, b, xs, k, ex, ey, ha, hk, hb, q3⟩ => Calls.spliced_nil ?_))))
  cases ex
  subst ey
  cases ry
  obtain ⟨h1, h2, ys, r, dd⟩ := dct_of I3 ha hk
  refine call_meetsIn PySem.F.slot_dict_get dd.typeIs PySem.F.entry_dict_get (PySem.F.args_dict_get_3 _ _ _) (meetsH_dict_get_default (nestedKind X.prog X.w) _ b h1 fv) ⟨roomN hu, k, ys, hb.is I3, dd, ?_⟩
  exact ⟨_, H3, I3.tok _, (YR.at r).getD rz, q3⟩
/-- {} -/
theorem dct_empty (h : Heap) (hb : sysModules < h.objs.size) : dctP h.objs.size [] (h.push { cls := .type "dict", data := .dict #[] }) :=
  ⟨beq_eq_false_iff_ne.mpr (Ne.symm (Nat.ne_of_lt hb)), Nat.zero_le _, [], _, #[], 0, .nil, Heap.get?_push_size _ rfl, ⟨rfl, rfl, rfl⟩, rfl, rfl, List.nodup_nil⟩
def tDNewN : TE := fun _ H Q => ∀ p, H p = none → Q (.ref p) (upd H p (dctO p []))
theorem pe_dnewN {pos : Pos} : PE X (.Dict [] [] pos) tDNewN := ⟨fun pins s σ H Q I h =>
  wpAny_Dict_empty ⟨.ref s.heap.objs.size, _, I.laid (a := s.heap.objs.size) (o := dctO _ []) (t' := s.toks) (fun _ _ q => Heap.get?_push_of_some _ q) (Nat.le_refl _) (dct_ok (dct_empty s.heap I.big)), rfl, h _ (I.hok.fresh (Nat.le_refl _))⟩⟩
end
end Wl

set_option Elab.async false
set_option linter.all false
set_option maxRecDepth 100000
set_option maxHeartbeats 1000000
namespace Wl
open PySem PySem.Spec PyProof.Rows L2
/-! ### rows of ints: order, sorting -/
def lexI : List Int → List Int → Bool
  | [], [] => false
  | [], _ :: _ => true
  | _ :: _, [] => false
  | x :: xs, y :: ys => if x = y then lexI xs ys else decide (x < y)
theorem lexI_lt : ∀ xs ys : List Int, lexI xs ys = decide (xs < ys)
  | [], [] => by simp [lexI]
  | [], y :: ys => by simp [lexI]
  | x :: xs, [] => by simp [lexI]
  | x :: xs, y :: ys => by
    unfold lexI
    rw [lexI_lt xs ys]
    by_cases h : x = y
    · rw [if_pos h]
      simp [h, List.cons_lt_cons_iff]
    · rw [if_neg h]
      simp [h, List.cons_lt_cons_iff]
def insR (x : List Int) : List (List Int) → List (List Int)
  | [] => [x]
  | y :: r => if lexI y x then y :: insR x r else x :: y :: r
def sortR : List (List Int) → List (List Int)
  | [] => []
  | x :: r => insR x (sortR r)
theorem insR_perm (x : List Int) : ∀ l, (insR x l).Perm (x :: l)
  | [] => .refl _
  | y :: r => by
    unfold insR
    split
    · exact ((insR_perm x r).cons y).trans (.swap x y r)
    · exact .refl _
theorem sortR_perm : ∀ l, (sortR l).Perm l
  | [] => .refl _
  | x :: r => (insR_perm x _).trans ((sortR_perm r).cons x)
theorem insR_sorted (x : List Int) : ∀ l, l.Pairwise (· ≤ ·) → (insR x l).Pairwise (· ≤ ·)
  | [], _ => by simp [insR]
  | y :: r, h => by
    rw [List.pairwise_cons] at h
    unfold insR
    split
    · rename_i hy
      rw [lexI_lt, decide_eq_true_eq] at hy
      rw [List.pairwise_cons]
      refine ⟨fun z hz => ?_, insR_sorted x r h.2⟩
      rcases List.mem_cons.mp ((insR_perm x r).mem_iff.mp hz) with e | e
      · rw [e]
        exact List.le_of_lt hy
      · exact h.1 z e
    · rename_i hy
      rw [lexI_lt, decide_eq_true_eq] at hy
      have hxy : x ≤ y := List.not_lt.mp hy
      rw [List.pairwise_cons, List.pairwise_cons]
      refine ⟨fun z hz => ?_, h.1, h.2⟩
      rcases List.mem_cons.mp hz with e | e
      · rw [e]
        exact hxy
      · exact List.le_trans hxy (h.1 z e)
theorem sortR_sorted : ∀ l, (sortR l).Pairwise (· ≤ ·)
  | [] => .nil
  | x :: r => insR_sorted x _ (sortR_sorted r)
theorem sortR_one {l m : List (List Int)} (h : l.Perm m) (hl : l.Pairwise (· ≤ ·)) : sortR m = l :=
  ((sortR_perm m).trans h.symm).eq_of_pairwise (fun x y _ _ h1 h2 => List.le_antisymm h1 h2) (sortR_sorted m) hl
/-- a row as data -/
def rowD (tu : Bool) (xs : List Int) : PyData := if tu then .tuple (xs.map .int) else .list (xs.map .int)
theorem rowD_t (xs : List Int) : rowD true xs = .tuple (xs.map .int) := rfl
theorem rowD_f (xs : List Int) : rowD false xs = .list (xs.map .int) := rfl
theorem alike_rows (tu : Bool) (xs ys : List Int) : PySem.W.alike (rowD tu xs) (rowD tu ys) = true := by
  cases tu
  · rw [rowD_f, rowD_f, PySem.W.alike]
    exact PySem.W.alike_ints xs ys
  · rw [rowD_t, rowD_t, PySem.W.alike]
    exact PySem.W.alike_ints xs ys
theorem lt_rows (tu : Bool) (xs ys : List Int) : PySem.W.dataLt (rowD tu xs) (rowD tu ys) = lexI xs ys := by
  rw [lexI_lt]
  cases tu
  · rw [rowD_f, rowD_f, PySem.W.dataLt_list]
    exact PySem.W.dataLt_ints xs ys
  · rw [rowD_t, rowD_t, PySem.W.dataLt_tuple]
    exact PySem.W.dataLt_ints xs ys
theorem depth_ints : ∀ ns : List Int, PyData.depthAll (ns.map PyData.int) = 0
  | [] => rfl
  | _ :: r => by
    rw [List.map_cons, PyData.depthAll, depth_ints r]
    rfl
theorem depth_row (tu : Bool) (xs : List Int) : (rowD tu xs).depth = 1 := by
  cases tu
  · rw [rowD_f, PyData.depth, depth_ints]
  · rw [rowD_t, PyData.depth, depth_ints]
def leI (p q : List Int) : Bool := !lexI q p
theorem leI_le (p q : List Int) : leI p q = decide (p ≤ q) := by
  unfold leI
  rw [lexI_lt]
  by_cases h : q < p
  · rw [decide_eq_true h, decide_eq_false (fun r => List.not_lt.mpr r h)]
    rfl
  · rw [decide_eq_false h, decide_eq_true (List.not_lt.mp h)]
    rfl
theorem merge_rows (l : List (List Int)) : l.mergeSort leI = sortR l := by
  refine (sortR_one (List.mergeSort_perm l leI) ?_).symm
  have h := List.pairwise_mergeSort (le := leI) (fun a b c h1 h2 => by
    rw [leI_le, decide_eq_true_eq] at *
    exact List.le_trans h1 h2) (fun a b => by
    rw [leI_le, leI_le, Bool.or_eq_true, decide_eq_true_eq, decide_eq_true_eq]
    exact List.le_total a b) l
  exact h.imp fun {a b} q => by
    rw [leI_le, decide_eq_true_eq] at q
    exact q
section
variable {X : Cx}
theorem each_vals {bs : List (V × List Int)} : ∀ {us : List Value}, Vals (bs.map (·.1)) us → PySem.W.EachIs (fun v (b : V × List Int) => RelV b.1 v) us bs := by
  induction bs with
  | nil =>
    intro us h
    cases h
    exact .nil
  | cons b bs ih =>
    intro us h
    cases h with
    | cons h1 h2 => exact .cons h1 (ih h2)
theorem vals_each {us : List Value} {bs : List (V × List Int)} (h : PySem.W.EachIs (fun v (b : V × List Int) => RelV b.1 v) us bs) : Vals (bs.map (·.1)) us := by
  induction h with
  | nil => exact .nil
  | cons h1 _ ih => exact .cons h1 ih
theorem each_reads {tu : Bool} {pins : List (Addr × Obj)} {σ : L2.St} {H : Hp} {s : Shared} (I : Inv X pins σ H s) {bs : List (V × List Int)} : ∀ {us : List Value}, Vals (bs.map (·.1)) us → (∀ b ∈ bs, Dp X.K H b.1 (rowD tu b.2)) → PySem.W.EachIs (fun v (b : V × List Int) => ∃ as, Reads s.heap v (rowD tu b.2) as) us bs := by
  induction bs with
  | nil =>
    intro us h _
    cases h
    exact .nil
  | cons b bs ih =>
    intro us h hd
    cases h with
    | cons h1 h2 => exact .cons (Dp.reads I _ _ _ (hd b (by simp)) h1) (ih h2 fun c hc => hd c (List.mem_cons_of_mem _ hc))
/-- sorted(xs), rows of ints -/
def rSortedR (K : PySem.W.Frag) : List V → Hp → VK → Prop := fun vs H Q => ∃ (a : Addr) (tu : Bool) (bs : List (V × List Int)), vs = [.ref a] ∧ SqL K H a (bs.map (·.1)) ∧ (∀ b ∈ bs, Dp K H b.1 (rowD tu b.2)) ∧ (∀ b ∈ bs, b.2 ≠ []) ∧
  ∀ (cs : List (V × List Int)) (p : Addr), cs.Perm bs → cs.map (·.2) = sortR (bs.map (·.2)) → H p = none → Q (.ref p) (upd H p (.lst (cs.map (·.1))))
theorem cr_sortedR (hu : X.A.units + 65 < cLine) : CallR X (.builtin "sorted") (rSortedR X.K) := by
  intro pins s σ H vs us Q I r h
  obtain ⟨a, tu, bs, rfl, hs, hd, hne, q⟩ := h
  obtain ⟨its, rv, hl, hz⟩ := I.list hs
  rw [Vals.ref1 r]
  rw [List.length_map] at hz
  refine PySem.W.sorted_data (R := fun v (b : V × List Int) => RelV b.1 v) (enc := fun b => rowD tu b.2) (bs := bs) hl.isList (each_vals rv) (each_reads I rv hd) (PySem.W.AllAlike.of fun b b' => alike_rows tu _ _) ?_ hz (fun b _ => by rw [depth_row]; omega) fun out ho eo => ?_
  · cases tu with
    | true =>
      refine .inl fun d hd' => ?_
      obtain ⟨b, hb, rfl⟩ := List.mem_map.mp hd'
      have := hne b hb
      cases e : b.2 with
      | nil => exact absurd e this
      | cons x r => exact ⟨.int x, r.map .int, by rw [rowD_t]; rfl⟩
    | false =>
      refine .inr fun d hd' => ?_
      obtain ⟨b, hb, rfl⟩ := List.mem_map.mp hd'
      rw [rowD_f]
      exact ⟨(fun z => nomatch z), (fun xs z => nomatch z)⟩
  · obtain ⟨ep, he'⟩ := PyProof.Rows.sortedAll_at s.heap its out.toArray
    have hp : (bs.mergeSort (PySem.W.dataLe false fun b => rowD tu b.2)).Perm bs := List.mergeSort_perm bs _
    have hm : (bs.mergeSort (PySem.W.dataLe false fun b => rowD tu b.2)).map (·.2) = sortR (bs.map (·.2)) := by
      rw [← merge_rows]
      refine PySem.W.sort_maps (fun b : V × List Int => b.2) fun a _ b _ => ?_
      rw [PySem.W.dataLe_eq]
      show (!PySem.W.dataLt (rowD tu b.2) (rowD tu a.2)) = leI a.2 b.2
      rw [lt_rows]
      rfl
    refine ⟨.ref _, _, I.laid (t' := s.toks) (o := .lst ((bs.mergeSort (PySem.W.dataLe false fun b => rowD tu b.2)).map (·.1))) (fun _ _ => PyProof.Rows.sortedAll_old) (Nat.le_succ _) ⟨?_, out, ep, vals_each eo, he'⟩, rfl, q _ _ hp hm (I.hok.fresh (Nat.le_succ _))⟩
    rw [List.length_map, hp.length_eq]
    exact hz
def minR (x : List Int) (xs : List (List Int)) : List Int := xs.foldl (fun a y => if lexI y a then y else a) x
theorem minR_D (tu : Bool) : ∀ (xs : List (List Int)) (x : List Int), PySem.W.minD (rowD tu x) (xs.map (rowD tu)) = rowD tu (minR x xs)
  | [], x => rfl
  | y :: xs, x => by
    have ih := minR_D tu xs (if lexI y x then y else x)
    unfold PySem.W.minD minR at *
    rw [List.map_cons, List.foldl_cons, List.foldl_cons, lt_rows]
    rw [← ih]
    by_cases h : lexI y x = true
    · rw [if_pos h, if_pos h]
    · rw [if_neg h, if_neg h]
/-- min(xs), rows of ints -/
def rMinR (K : PySem.W.Frag) : List V → Hp → VK → Prop := fun vs H Q => ∃ (a : Addr) (tu : Bool) (b : V × List Int) (bs : List (V × List Int)), vs = [.ref a] ∧ SqL K H a ((b :: bs).map (·.1)) ∧ (∀ c ∈ b :: bs, Dp K H c.1 (rowD tu c.2)) ∧
  ∀ c ∈ b :: bs, c.2 = minR b.2 (bs.map (·.2)) → Q c.1 H
theorem each_at {tu : Bool} {h : Heap} {bs : List (V × List Int)} {us : List Value} (e : PySem.W.EachIs (fun v (b : V × List Int) => RelV b.1 v ∧ ∃ as, Reads h v (rowD tu b.2) as) us bs) : ∀ {i : Nat} {v : Value}, us[i]? = some v → ∃ b ∈ bs, RelV b.1 v ∧ ∃ as, Reads h v (rowD tu b.2) as := by
  induction e with
  | nil =>
    intro i v h
    simp at h
  | cons h1 _ ih =>
    intro i v hv
    cases i with
    | zero =>
      simp at hv
      subst hv
      exact ⟨_, by simp, h1⟩
    | succ i =>
      obtain ⟨b, hb, q⟩ := ih (i := i) (by simpa using hv)
      exact ⟨b, List.mem_cons_of_mem _ hb, q⟩
theorem each_both {R S : Value → V × List Int → Prop} {us : List Value} {bs : List (V × List Int)} (h1 : PySem.W.EachIs R us bs) : PySem.W.EachIs S us bs → PySem.W.EachIs (fun v b => R v b ∧ S v b) us bs := by
  induction h1 with
  | nil => intro _; exact .nil
  | cons a _ ih =>
    intro h2
    cases h2 with
    | cons b c => exact .cons ⟨a, b⟩ (ih c)
theorem row_one {tu : Bool} {h : Heap} {v : Value} {a b : List Int} {as bs : List Addr} (r1 : Reads h v (rowD tu a) as) (r2 : Reads h v (rowD tu b) bs) : a = b := by
  have e := PySem.W.alike_unique _ _ _ _ _ (alike_rows tu a b) r1 r2
  have inj : ∀ x y : List Int, x.map PyData.int = y.map PyData.int → x = y := fun x y q => List.map_inj_right (fun _ _ z => PyData.int.inj z) |>.mp q
  cases tu with
  | true =>
    rw [rowD_t, rowD_t] at e
    exact inj _ _ (PyData.tuple.inj e)
  | false =>
    rw [rowD_f, rowD_f] at e
    exact inj _ _ (PyData.list.inj e)
theorem all_reads {tu : Bool} {pins : List (Addr × Obj)} {σ : L2.St} {H : Hp} {s : Shared} (I : Inv X pins σ H s) : ∀ {bs : List (V × List Int)} {us : List Value}, Vals (bs.map (·.1)) us → (∀ b ∈ bs, Dp X.K H b.1 (rowD tu b.2)) → ∃ as, ReadsAll s.heap us (bs.map fun b => rowD tu b.2) as
  | [], _, h, _ => by
    cases h
    exact ⟨_, .nil⟩
  | b :: bs, _, h, hd => by
    cases h with
    | cons h1 h2 =>
      obtain ⟨as, r⟩ := Dp.reads I _ _ _ (hd b (by simp)) h1
      obtain ⟨bs', r'⟩ := all_reads I h2 fun c hc => hd c (List.mem_cons_of_mem _ hc)
      exact ⟨_, .cons r r'⟩
theorem depthAll_rows (tu : Bool) : ∀ bs : List (V × List Int), PyData.depthAll (bs.map fun b => rowD tu b.2) ≤ 1
  | [] => by
    rw [List.map_nil, PyData.depthAll]
    omega
  | b :: bs => by
    rw [List.map_cons, PyData.depthAll, depth_row]
    exact Nat.max_le.mpr ⟨Nat.le_refl _, depthAll_rows tu bs⟩
theorem cr_minR (hc : X.calm = true) (hu : X.A.units + 65 < cLine) : CallR X (.builtin "min") (rMinR X.K) := by
  intro pins s σ H vs us Q I r h
  obtain ⟨a, tu, b, bs, rfl, hs, hd, q⟩ := h
  obtain ⟨its, rv, hl, hz⟩ := I.list hs
  rw [Vals.ref1 r]
  obtain ⟨as, ra⟩ := all_reads I rv hd
  have hdep := depthAll_rows tu (b :: bs)
  refine PySem.W.min_list_data (x := rowD tu b.2) (xs := bs.map fun b => rowD tu b.2) (I.ok.hd hc) hl.isList (by simpa using ra) ⟨fun x hx y hy => ?_, fun x hx => ?_⟩ (by
      rw [List.map_cons] at hdep
      omega) fun i v h' tk bs' hv r' hk => ?_
  · rw [← List.map_cons (f := fun b : V × List Int => rowD tu b.2)] at hx hy
    obtain ⟨c, _, rfl⟩ := List.mem_map.mp hx
    obtain ⟨d, _, rfl⟩ := List.mem_map.mp hy
    exact alike_rows tu _ _
  · rw [← List.map_cons (f := fun b : V × List Int => rowD tu b.2)] at hx
    obtain ⟨c, _, rfl⟩ := List.mem_map.mp hx
    cases tu <;> exact fun z => nomatch z
  · have e := each_both (each_vals rv) (each_reads I rv hd)
    obtain ⟨c, hc, rc, cs, q1⟩ := each_at e (i := i) (v := v) (by simpa using hv)
    have em : PySem.W.minD (rowD tu b.2) (bs.map fun b => rowD tu b.2) = rowD tu (minR b.2 (bs.map (·.2))) := by
      have := minR_D tu (bs.map (·.2)) b.2
      rw [List.map_map] at this
      exact this
    rw [em] at r'
    have e2 := row_one (PyProof.Rows.Reads.keeps hk q1) r'
    exact ⟨c.1, H, I.kept (t' := tk) hk, rc, q c hc e2⟩
/-- xs < ys, rows of ints -/
def rLtR (K : PySem.W.Frag) : R2 := fun x y H Q => ∃ (tu : Bool) (p q : List Int), Dp K H x (rowD tu p) ∧ Dp K H y (rowD tu q) ∧ Q (.bl (lexI p q)) H
theorem op_ltR (hu : X.A.units + 65 < cLine) : OpR X (compareOp .Lt) (rLtR X.K) := by
  intro pins s σ H x y v u Q I rx ry h
  obtain ⟨tu, p, q, hp, hq, k⟩ := h
  obtain ⟨as, r1⟩ := Dp.reads I _ _ _ hp rx
  obtain ⟨bs, r2⟩ := Dp.reads I _ _ _ hq ry
  refine PySem.W.lt_data r1 r2 (alike_rows tu p q) (by cases tu <;> exact fun z => nomatch z) (by rw [depth_row, depth_row]; omega) ?_
  rw [lt_rows]
  exact ⟨.bl _, H, I, rfl, k⟩
end
end Wl

set_option Elab.async false
set_option linter.all false
set_option maxRecDepth 100000
set_option maxHeartbeats 1000000
namespace Wl
open PySem PySem.Spec PyProof.Rows L2
section
variable {prog : Program} {w : World} {A : Around} {E : Value → Shared → Prop} {s : Shared}
theorem adjust_back (n : Nat) : Builtin.Slice.sliceAdjust none none (-1) (n : Int) = ((n : Int) - 1, -1) := by
  unfold Builtin.Slice.sliceAdjust
  simp
theorem places_back (n : Nat) : Builtin.Slice.slicePlaces ((n : Int) - 1) (-1) (-1) = n := by
  unfold Builtin.Slice.slicePlaces
  have h1 : ¬ ((-1 : Int) > 0) := by decide
  rw [if_neg h1]
  by_cases h : (n : Int) - 1 > -1
  · rw [if_pos h, show (-(-1 : Int)) = 1 from rfl, Int.ediv_one]
    omega
  · rw [if_neg h]
    omega
theorem slice_back {sl : Addr} {vk : Value} {n : Nat} {Q : Int × Int × Nat → Shared → Prop} (hs : s.heap.IsSliceOf sl .none .none vk) (pk : IsPart vk (some (-1))) (h : Q ((n : Int) - 1, -1, n) s) :
    wpAny (model prog w) A (Builtin.Slice.sliceApplied (.ref sl) (pure (n : Int))) Q E s := by
  obtain ⟨os, hos, hcs, hds⟩ := id hs
  unfold Builtin.Slice.sliceApplied Builtin.Slice.sliceFields
  refine wpAny_bind (wpAny_bind (wpAny_field hos hds (x := .none) rfl (wpAny_bind (wpAny_field hos hds (x := .none) rfl (wpAny_bind (wpAny_field hos hds (x := vk) rfl (wpAny_pure ?_)))))))
  refine wpAny_bind (HT.slicePart_ pk ?_)
  show wpAny _ _ (if ((-1 : Int) == 0) = true then _ else _) _ _ s
  rw [if_neg (by decide)]
  refine wpAny_bind (slicePart_none (wpAny_bind (slicePart_none (wpAny_bind (wpAny_pure ?_)))))
  show wpAny _ _ (match Builtin.Slice.sliceAdjust none none (-1) (n : Int) with | (lo, hi) => pure (lo, (-1 : Int), Builtin.Slice.slicePlaces lo hi (-1))) _ _ s
  rw [adjust_back]
  show wpAny _ _ (pure (((n : Int) - 1), (-1 : Int), Builtin.Slice.slicePlaces ((n : Int) - 1) (-1) (-1))) _ _ s
  rw [places_back]
  exact wpAny_pure h
theorem filterMap_get {α : Type} (f : Nat → Option α) : ∀ (n : Nat) (l : List α), l.length = n → (∀ i, i < n → f i = l[i]?) → (List.range n).filterMap f = l := by
  intro n
  induction n with
  | zero =>
    intro l hl _
    cases l with
    | nil => rfl
    | cons _ _ => simp at hl
  | succ n ih =>
    intro l hl h
    have hne : l ≠ [] := fun e => by
      rw [e] at hl
      simp at hl
    rw [List.range_succ, List.filterMap_append, ih l.dropLast (by rw [List.length_dropLast, hl]; rfl) fun i hi => by
      rw [h i (by omega), List.getElem?_dropLast, if_pos (by omega)]]
    have e : f n = some (l.getLast hne) := by
      rw [h n (by omega), List.getLast_eq_getElem]
      rw [List.getElem?_eq_getElem (by omega)]
      congr 2
      omega
    rw [List.filterMap_cons, e]
    exact List.dropLast_concat_getLast hne
theorem pick_back (xs : Array Value) : ((List.range xs.size).filterMap fun (k : Nat) => xs[((xs.size : Int) - 1 + (k : Int) * (-1)).toNat]?).toArray = xs.toList.reverse.toArray := by
  congr 1
  refine filterMap_get _ xs.size xs.toList.reverse (by simp) fun i hi => ?_
  rw [List.getElem?_reverse (by simpa using hi), show ((xs.size : Int) - 1 + (i : Int) * (-1)).toNat = xs.size - 1 - i by omega]
  simp
theorem getItem_tuple_back {t sl : Addr} {items : Array Value} {vk : Value} {Q : Value → Shared → Prop} (ht : IsTup s.heap t items) (hs : s.heap.IsSliceOf sl .none .none vk) (pk : IsPart vk (some (-1)))
    (h : Q (.ref s.heap.objs.size) { s with heap := s.heap.push { cls := .type "tuple", data := .seq items.toList.reverse.toArray } }) (hsz : items.size ≤ sizeLine) : wpAny (model prog w) A (getItem (.ref t) (.ref sl)) Q E s := by
  have htake : sizeOk (.seq items.toList.reverse.toArray) := by
    show items.toList.reverse.toArray.size ≤ sizeLine
    simpa using hsz
  obtain ⟨os, hos, hcs, hds⟩ := id hs
  have hTs : s.TypeIs (.ref sl) "slice" := ⟨os, hos, hcs⟩
  unfold getItem
  try with_reducible refine wpAny_holding ?_
  first | refine wpAny_bind (wpAny_pure ?_) | skip
  refine wpAny_bind (wpAny_sequenceKey ht.typeIs (by decide) ?_)
  refine wpAny_bind (wpAny_callSpecial?_slot (name := Str.ofString "__getitem__") ht.typeIs PyProof.Rows.slot_tuple_getitem
    (wpAny_call_entry PyProof.Rows.slot_tuple_getitem ht.typeIs entry_tuple_getitem ?_ (args_tuple_getitem _ _)))
  show wpAny _ _ (Builtin.Tuple.tupleItemsOf (.ref t) >>= _) _ _ s
  refine wpAny_bind (tupleItemsOf_ ht ?_)
  refine wpAny_bind (wpAny_typeOf hTs ?_)
  rw [if_pos (by decide)]
  refine wpAny_bind (slice_back hs pk ?_)
  have hno : ¬ ((((items.size : Int) - 1) == 0 && (-1 : Int) == 1 && items.size == items.size) = true) := by
    intro q
    rw [Bool.and_eq_true, Bool.and_eq_true] at q
    exact absurd q.1.2 (by decide)
  show wpAny _ _ (if (((items.size : Int) - 1) == 0 && (-1 : Int) == 1 && items.size == items.size) = true then _ else _) _ _ s
  rw [if_neg hno, pick_back]
  first
    | exact wpAny_bind (m := Builtin.Tuple.tupleExact _) (wpAny_newObj_type (wpAny_pure ⟨_, rfl, wpAny_pure h⟩) htake)
    | exact wpAny_bind (m := Builtin.Tuple.tupleExact _) (wpAny_newObj_type (wpAny_bind (wpAny_pure (wpAny_pure ⟨_, rfl, wpAny_pure h⟩))) htake)
    | exact wpAny_bind (wpAny_bind (m := Builtin.Tuple.tupleExact _) (wpAny_newObj_type (wpAny_pure (wpAny_pure ⟨_, rfl, wpAny_pure h⟩)) htake))
    | exact wpAny_bind (wpAny_bind (m := Builtin.Tuple.tupleExact _) (wpAny_newObj_type (wpAny_pure ⟨_, rfl, wpAny_pure h⟩) htake))
end
section
variable {X : Cx}
/-- xs[::-1], a list or a tuple -/
def tRevA (K : PySem.W.Frag) (te : TE) : TE := fun σ H Q => te σ H fun x H1 => (∃ a xs, x = .ref a ∧ SqL K H1 a xs ∧ ∀ p, H1 p = none → Q (.ref p) (upd H1 p (.lst xs.reverse))) ∨ (∃ a xs, x = .ref a ∧ SqT K H1 a xs ∧ ∀ p, H1 p = none → Q (.ref p) (upd H1 p (.tup xs.reverse)))
theorem pe_revA {e : Expr} {te : TE} {k : Nat} {p1 p2 p3 pos : Pos} (he : PE X e te) : PE X (.Subscript e (.Slice none none (some (.UnaryOp .USub (.Constant (.int 1) k p1) p2)) p3) pos) (tRevA X.K te) := by
  refine ⟨fun pins s σ H Q I h => ?_⟩
  refine Subscript_ (thn (he.run pins s σ H _ I h) fun v s1 ⟨x, H1, I1, r1, q1⟩ => ?_)
  obtain ⟨a, rfl⟩ : ∃ a, x = .ref a := by
    rcases q1 with ⟨a, xs, ex, _⟩ | ⟨a, xs, ex, _⟩
    · exact ⟨a, ex⟩
    · exact ⟨a, ex⟩
  cases r1
  have hst : L2.PO X (some (.UnaryOp .USub (.Constant (.int 1) k p1) p2)) (tPart (tUn (rU fun i => .int (-i)) (tC (.int 1)))) := po_some (pe_un un_neg pe_int)
  refine wpAny_Slice (thn (po_none.run pins s1 σ H1 (fun o H2 => o = none ∧ H2 = H1) I1 ⟨rfl, rfl⟩) fun vl s2 ⟨l, H2, I2, pl, el, e2⟩ => ?_)
  subst el e2
  refine thn (po_none.run pins s2 σ H2 (fun o H3 => o = none ∧ H3 = H2) I2 ⟨rfl, rfl⟩) fun vu s3 ⟨u, H3, I3, pu, eu, e3⟩ => ?_
  subst eu e3
  refine thn (hst.run pins s3 σ H3 (fun o H4 => o = some (-1) ∧ H4 = H3) I3 ⟨1, rfl, -1, rfl, rfl, rfl⟩) fun vs s4 ⟨o, H4, I4, ps, eo, e4⟩ => ?_
  subst eo e4
  have I5 : Inv X pins σ H4 { s4 with heap := s4.heap.push { cls := .type "slice", data := .fields #[vl, vu, vs] } } := I4.kept (t' := s4.toks) fun b ob q => Heap.get?_push_of_some _ q
  show wpAny (model X.prog X.w) X.A (subscriptTail e (.Slice none none (some (.UnaryOp .USub (.Constant (.int 1) k p1) p2)) p3) (.ref a) (.ref s4.heap.objs.size)) (EP X pins σ Q) X.xe { s4 with heap := s4.heap.push { cls := .type "slice", data := .fields #[vl, vu, vs] } }
  rcases q1 with ⟨a', xs, ex, hx, q⟩ | ⟨a', xs, ex, hx, q⟩
  · cases ex
    obtain ⟨its, r, ht, hz⟩ := I5.list hx
    have hlen := r.length
    refine tail_any (ops := [.ref a, .ref s4.heap.objs.size]) ht.isList.typeIs (PySem.slot_list_getitem.lookup) ?_ (by with_unfolding_all rfl)
    refine wpAny_getItem_list_slice ht.isList (Heap.IsSliceOf.new _ vl vu vs) pl pu ps (by decide) ?_ (by rw [List.size_toArray]; omega)
    rw [PySem.W.krv_pick]
    refine ⟨.ref _, _, I5.laid (t' := s4.toks) (o := .lst xs.reverse) (fun b ob q => Heap.get?_push_of_some _ q) (Nat.le_refl _) ?_, rfl, q _ (I5.hok.fresh (Nat.le_refl _))⟩
    exact ⟨by rw [List.length_reverse]; exact hz, _, 0, r.reverse, Heap.get?_push_size _ rfl⟩
  · cases ex
    obtain ⟨its, r, ht, hz⟩ := I5.tuple hx
    have hlen := r.length
    refine tail_any (ops := [.ref a, .ref s4.heap.objs.size]) ht.typeIs (PyProof.Rows.slot_tuple_getitem.lookup) ?_ (by with_unfolding_all rfl)
    cases pl
    cases pu
    refine getItem_tuple_back ht (Heap.IsSliceOf.new _ .none .none vs) ps ?_ (by rw [List.size_toArray]; omega)
    refine ⟨.ref _, _, I5.laid (t' := s4.toks) (o := .tup xs.reverse) (fun b ob q => Heap.get?_push_of_some _ q) (Nat.le_refl _) ?_, rfl, q _ (I5.hok.fresh (Nat.le_refl _))⟩
    exact ⟨by rw [List.length_reverse]; exact hz, _, r.reverse, IsTup.new _ _⟩
end
/-! ### text * int -/
def repS (z : Str) (n : Int) : Str := ⟨(List.replicate n.toNat z.cps).foldl (· ++ ·) #[]⟩
theorem fold_size (a : Array Nat) : ∀ (k : Nat) (b : Array Nat), ((List.replicate k a).foldl (· ++ ·) b).size = b.size + k * a.size
  | 0, b => by simp
  | k + 1, b => by
    rw [List.replicate_succ, List.foldl_cons, fold_size a k, Array.size_append, Nat.succ_mul]
    omega
theorem repS_len (z : Str) (n : Int) : (repS z n).length = z.length * n.toNat := by
  show ((List.replicate n.toNat z.cps).foldl (· ++ ·) #[]).size = _
  rw [fold_size, Nat.mul_comm]
  show 0 + z.cps.size * n.toNat = z.cps.size * n.toNat
  omega
section
variable {X : Cx}
theorem op_strmul : OpR X (binaryOp .Mult) (fun x y H Q => ∃ (z : Str) (n : Int), x = .str z ∧ y = .int n ∧ 2 ≤ n ∧ n ≤ 1000 ∧ 1 ≤ z.length ∧ z.length ≤ 1000 ∧ Q (.str (repS z n)) H) := by
  intro pins s σ H x y v u Q I rx ry h
  obtain ⟨z, n, rfl, rfl, h1, h2, h3, h4, q⟩ := h
  obtain ⟨t, rfl⟩ := rx
  obtain ⟨t', rfl⟩ := ry
  have hm : z.length * n.toNat ≤ 1000 * 1000 := Nat.mul_le_mul h4 (by omega)
  have hl : Builtin.Str.tooLong (z.length * n.toNat) = false := by
    unfold Builtin.Str.tooLong
    exact decide_eq_false (by rw [sizeLine_eq]; omega)
  have h5 : (n == 1 || z.length == 0) = false := by
    rw [Bool.or_eq_false_iff]
    exact ⟨beq_eq_false_iff_ne.mpr (by omega), beq_eq_false_iff_ne.mpr (by omega)⟩
  refine P.mul_str (by
    rw [decide_eq_false (by omega), decide_eq_false (by omega)]
    rfl) (fun _ _ => ?_) (fun _ _ => hl) ?_
  · have : (1000 : Int) ≤ (2 ^ 63 - 1) / n := by
      rw [Int.le_ediv_iff_mul_le (by omega)]
      omega
    omega
  · rw [if_neg (by omega), h5, if_neg Bool.false_ne_true]
    exact ⟨by
      show (repS z n).length ≤ sizeLine
      rw [repS_len, sizeLine_eq]
      omega, .str (repS z n), H, I.tok _, ⟨_, rfl⟩, q⟩
end
/-! ### a, b = x, y -/
def lcN (sc : Scope) (x : Str) : Bool := match sc.names.lookup x with
  | some .local => true
  | _ => false
def stF : Expr → Bool
  | .Starred .. => true
  | _ => false
def nmF (env : Env) (line : Nat) : Expr → Option Str
  | .Name id pos => if env.kindOf id == some .local && pos.line == line then some id else none
  | _ => none
theorem sw_eq {env : Env} {ts vs : List Expr} {k k2} {p q : Pos} : swappedStores [.Tuple ts k p] (.Tuple vs k2 q) env = (do
  if !(ts.length == 2 || ts.length == 3) || vs.length != ts.length || env.blockKind != .function then return none
  if vs.any stF then return none
  if (ts.filterMap (nmF env ((ts.head?.map (·.pos.line)).getD 0))).length != ts.length || (ts.filterMap (nmF env ((ts.head?.map (·.pos.line)).getD 0))).eraseDups.length != (ts.filterMap (nmF env ((ts.head?.map (·.pos.line)).getD 0))).length then return none
  if vs.all (foldedForSure 8) then return none
  if vs.all (constantsAlone 8) then unsupported "assign.tuple-of-constant-expressions:order-of-the-stores"
  return some (ts.filterMap (nmF env ((ts.head?.map (·.pos.line)).getD 0))) : Sem (Option (List Str))) := rfl
theorem kind_fn {env : Env} (h : env.scope.kind = .function) : env.blockKind = .function := by
  unfold Env.blockKind
  rw [h]
  rfl
theorem lcN_kind {env : Env} {x : Str} (h : lcN env.scope x = true) : env.kindOf x = some .local := by
  unfold lcN at h
  unfold Env.kindOf
  split at h
  · assumption
  · cases h
theorem lcN_not {env : Env} {x : Str} (h : lcN env.scope x = false) : (env.kindOf x == some .local) = false := by
  unfold lcN at h
  unfold Env.kindOf
  split at h
  · cases h
  · rename_i hn
    cases e : env.scope.names.lookup x with
    | none => rfl
    | some k =>
      rw [e] at hn
      cases k <;> first | rfl | exact absurd rfl hn
theorem sw_two {env : Env} {x y : Str} {px py p q : Pos} {k k2} {vs : List Expr} (hf : env.scope.kind = .function) (hx : lcN env.scope x = true) (hy : lcN env.scope y = true) (hl : (py.line == px.line) = true) (hne : (x == y) = false) (hlen : vs.length = 2) (hs : vs.any stF = false) (h1 : vs.all (foldedForSure 8) = false) (h2 : vs.all (constantsAlone 8) = false) :
    swappedStores [.Tuple [.Name x px, .Name y py] k p] (.Tuple vs k2 q) env = pure (some [x, y]) := by
  have hne' : (y == x) = false := by
    rw [beq_eq_false_iff_ne] at hne ⊢
    exact Ne.symm hne
  have ed : ([x, y] : List Str).eraseDups = [x, y] := by
    rw [List.eraseDups_cons, List.filter_cons, hne']
    rfl
  have en : ([Expr.Name x px, Expr.Name y py].filterMap (nmF env px.line)) = [x, y] := by
    rw [List.filterMap_cons, List.filterMap_cons, List.filterMap_nil]
    unfold nmF
    simp only [lcN_kind hx, lcN_kind hy, hl, beq_self_eq_true, Bool.and_self, if_true]
  rw [sw_eq]
  show (if (!(([Expr.Name x px, Expr.Name y py] : List Expr).length == 2 || ([Expr.Name x px, Expr.Name y py] : List Expr).length == 3) || vs.length != ([Expr.Name x px, Expr.Name y py] : List Expr).length || env.blockKind != .function) = true then pure none else _) = _
  rw [hlen, kind_fn hf, if_neg (by intro z; exact absurd z (by show ¬ (false = true); decide))]
  show (if vs.any stF = true then pure none else (if (([Expr.Name x px, Expr.Name y py].filterMap (nmF env px.line)).length != 2 || ([Expr.Name x px, Expr.Name y py].filterMap (nmF env px.line)).eraseDups.length != ([Expr.Name x px, Expr.Name y py].filterMap (nmF env px.line)).length) = true then pure none else (if vs.all (foldedForSure 8) = true then pure none else (if vs.all (constantsAlone 8) = true then _ else pure (some ([Expr.Name x px, Expr.Name y py].filterMap (nmF env px.line))))))) = _
  rw [hs, en, ed, h1, h2]
  rfl
theorem sw_three {env : Env} {x y z : Str} {px py pz p q : Pos} {k k2} {vs : List Expr} (hf : env.scope.kind = .function) (hx : lcN env.scope x = true) (hy : lcN env.scope y = true) (hz : lcN env.scope z = true) (hl : (py.line == px.line) = true) (hl2 : (pz.line == px.line) = true) (hxy : (x == y) = false) (hxz : (x == z) = false) (hyz : (y == z) = false) (hlen : vs.length = 3) (hs : vs.any stF = false) (h1 : vs.all (foldedForSure 8) = false) (h2 : vs.all (constantsAlone 8) = false) :
    swappedStores [.Tuple [.Name x px, .Name y py, .Name z pz] k p] (.Tuple vs k2 q) env = pure (some [x, y, z]) := by
  have sy : ∀ {a b : Str}, (a == b) = false → (b == a) = false := fun h => by
    rw [beq_eq_false_iff_ne] at h ⊢
    exact Ne.symm h
  have ed : ([x, y, z] : List Str).eraseDups = [x, y, z] := by
    rw [List.eraseDups_cons, List.filter_cons, sy hxy, List.filter_cons, sy hxz]
    show x :: ([y, z] : List Str).eraseDups = _
    rw [List.eraseDups_cons, List.filter_cons, sy hyz]
    rfl
  have en : ([Expr.Name x px, Expr.Name y py, Expr.Name z pz].filterMap (nmF env px.line)) = [x, y, z] := by
    rw [List.filterMap_cons, List.filterMap_cons, List.filterMap_cons, List.filterMap_nil]
    unfold nmF
    simp only [lcN_kind hx, lcN_kind hy, lcN_kind hz, hl, hl2, beq_self_eq_true, Bool.and_self, if_true]
  rw [sw_eq]
  show (if (!(([Expr.Name x px, Expr.Name y py, Expr.Name z pz] : List Expr).length == 2 || ([Expr.Name x px, Expr.Name y py, Expr.Name z pz] : List Expr).length == 3) || vs.length != ([Expr.Name x px, Expr.Name y py, Expr.Name z pz] : List Expr).length || env.blockKind != .function) = true then pure none else _) = _
  rw [hlen, kind_fn hf, if_neg (by intro z; exact absurd z (by show ¬ (false = true); decide))]
  show (if vs.any stF = true then pure none else (if (([Expr.Name x px, Expr.Name y py, Expr.Name z pz].filterMap (nmF env px.line)).length != 3 || ([Expr.Name x px, Expr.Name y py, Expr.Name z pz].filterMap (nmF env px.line)).eraseDups.length != ([Expr.Name x px, Expr.Name y py, Expr.Name z pz].filterMap (nmF env px.line)).length) = true then pure none else (if vs.all (foldedForSure 8) = true then pure none else (if vs.all (constantsAlone 8) = true then _ else pure (some ([Expr.Name x px, Expr.Name y py, Expr.Name z pz].filterMap (nmF env px.line))))))) = _
  rw [hs, en, ed, h1, h2]
  rfl
/-- not all of them plain local names -/
def notLoc (sc : Scope) : List Expr → Bool
  | [] => false
  | .Name x _ :: r => !lcN sc x || notLoc sc r
  | _ :: r => notLoc sc r
theorem nmF_cons {env : Env} {line : Nat} (t : Expr) (r : List Expr) : ((t :: r).filterMap (nmF env line)).length ≤ (r.filterMap (nmF env line)).length + 1 := by
  rw [List.filterMap_cons]
  split
  · omega
  · rw [List.length_cons]
    omega
theorem notLoc_lt {env : Env} {line : Nat} : ∀ {ts : List Expr}, notLoc env.scope ts = true → (ts.filterMap (nmF env line)).length < ts.length := by
  intro ts
  induction ts with
  | nil =>
    intro h
    cases h
  | cons t r ih =>
    intro h
    have le := List.length_filterMap_le (nmF env line) r
    have le2 := nmF_cons (env := env) (line := line) t r
    rw [List.length_cons]
    have other : notLoc env.scope r = true → ((t :: r).filterMap (nmF env line)).length < r.length + 1 := fun h => by
      have := ih h
      omega
    cases t with
    | Name x p =>
      unfold notLoc at h
      rw [Bool.or_eq_true] at h
      rcases h with h | h
      · rw [Bool.not_eq_true'] at h
        have e : nmF env line (.Name x p) = none := by
          show (if (env.kindOf x == some .local && p.line == line) = true then some x else none) = none
          rw [lcN_not h, Bool.false_and]
          rfl
        rw [List.filterMap_cons_none e]
        exact Nat.lt_succ_of_le le
      · exact other h
    | _ => exact other h
theorem sw_none {env : Env} {ts vs : List Expr} {k k2} {p q : Pos} (hs : vs.any stF = false) (hn : notLoc env.scope ts = true) :
    swappedStores [.Tuple ts k p] (.Tuple vs k2 q) env = pure none := by
  have key := notLoc_lt (line := (ts.head?.map (·.pos.line)).getD 0) hn
  rw [sw_eq]
  show (if (!(ts.length == 2 || ts.length == 3) || vs.length != ts.length || env.blockKind != .function) = true then pure none else (if vs.any stF = true then pure none else (if ((ts.filterMap (nmF env ((ts.head?.map (·.pos.line)).getD 0))).length != ts.length || (ts.filterMap (nmF env ((ts.head?.map (·.pos.line)).getD 0))).eraseDups.length != (ts.filterMap (nmF env ((ts.head?.map (·.pos.line)).getD 0))).length) = true then pure none else _))) = _
  split
  · rfl
  · rw [hs, if_neg Bool.false_ne_true, if_pos]
    rw [Bool.or_eq_true]
    left
    rw [bne_iff_ne]
    omega
end Wl

set_option Elab.async false
set_option linter.all false
set_option maxRecDepth 100000
namespace Wl
open PySem L2

/-! the little language: values, stored things, expressions, statements -/
inductive W where
  | d (x : PyData)
  | m (n : Nat)
  | s (ns : List Int)
inductive MO where
  | lst (ws : List W)
  | dct (t : Bool) (kvs : List (PyData × PyData))
  | ins (fs : List W)
  | exc (c : Nat)
  | dead
abbrev MH := List MO
abbrev Sl := List (Option W)
inductive Out where
  | val (w : W) (M : MH)
  | exc (c : Nat) (M : MH)
inductive OutL where
  | val (ws : List W) (M : MH)
  | exc (c : Nat) (M : MH)
inductive OutI where
  | val (xs : List PyData) (M : MH)
  | exc (c : Nat) (M : MH)
inductive OutP where
  | val (i : Option Int) (M : MH)
  | exc (c : Nat) (M : MH)
inductive SO where
  | nx (σ : Sl) (M : MH)
  | rt (w : W) (M : MH)
  | ex (c : Nat) (σ : Sl) (M : MH)

inductive BO where
  | add | sub | mul | mod | fdv | pow
  deriving DecidableEq
inductive CO where
  | lt | le | gt | ge | eq | ne | is | isn | inn | nin
  deriving DecidableEq
inductive BF where
  | len | max1 | min1 | max2 | min2 | sum | all | any | sorted | list | tuple | str | int
  deriving DecidableEq
inductive IT where
  | int | bool | list | tuple | str | own (c : Nat) | verr
  deriving DecidableEq
inductive MF where
  | index | count | join | split
  deriving DecidableEq

mutual
inductive IE where
  | var (i : Nat)
  | cst (x : PyData)
  | glb (x : Str) (v : PyData)
  | bin (op : BO) (a b : IE)
  | neg (a : IE)
  | cmp (op : CO) (a b : IE)
  | chn (o p : CO) (a b c : IE)
  | bop (c : Bool) (es : IEs)
  | not (a : IE)
  | ife (t a b : IE)
  | lst (mu : Bool) (es : IEs)
  | tup (es : IEs)
  | sub (a i : IE)
  | sli (a : IE) (lo hi : IEs)
  | rev (a : IE)
  | call (mode : Nat) (f : Nat) (es : IEs)
  | blt (b : BF) (mu : Bool) (es : IEs)
  | isi (a : IE) (t : IT)
  | mth (f : MF) (o e : IE)
  | lc (mu : Bool) (own : List Nat) (it : II) (g : List Nat) (ifs : IEs) (elt : IE)
  | dct (t : Bool)
  | dsb (a i : IE)
  | din (n : Bool) (i a : IE)
  | dgt (a i d : IE)
  | dln (a : IE)
  | dso (a : IE)
  | lr1 (tu mu : Bool) (b : IE)
  | lr2 (tu mu : Bool) (a b : IE)
  | fst (a b : IE)
  | sse (a : IE)
  | att (a : IE) (k : Nat)
  | mkI (f : Nat) (es : IEs)
  | mct (mode f : Nat) (nm : Str) (o : IE) (es : IEs)
  | pop (o : IE)
  | oln (f : Nat) (a : IE)
inductive IEs where
  | nil
  | cons (e : IE) (es : IEs)
inductive II where
  | seq (k : Nat) (e : IE)
  | rng (es : IEs)
  | zip (es : IEs)
  | enm (es : IEs)
end

mutual
inductive IS where
  | asg (i : Nat) (e : IE)
  | asgC (i : Nat) (mu : Bool) (own : List Nat) (it : II) (g : List Nat) (ifs : IEs) (elt : IE)
  | asgT (is : List Nat) (e : IE)
  | asgP (is : List Nat) (es : IEs)
  | setI (o i e : IE)
  | setD (o i e : IE)
  | aug (op : BO) (i : Nat) (e : IE)
  | exp (e : IE)
  | app (o e : IE)
  | ret (e : IE)
  | ite (t : IE) (a b : ISs)
  | for (it : II) (g : List Nat) (b : ISs)
  | whl (t : IE) (b : ISs)
  | rse (c : Nat)
  | try (b : ISs) (i j : Nat)
  | pass
  | frz (i : Nat)
  | setA (o : IE) (k : Nat) (e : IE)
inductive ISs where
  | nil
  | cons (s : IS) (ss : ISs)
end

/-! what operations do -/
def dat : W → Option PyData
  | .d x => some x
  | _ => none
def dats : List W → Option (List PyData)
  | [] => some []
  | .d x :: r => (dats r).map (x :: ·)
  | _ :: _ => none
def view (M : MH) : W → Option PyData
  | .d x => some x
  | .m n => match M[n]? with
    | some (.lst ws) => (dats ws).map .list
    | _ => none
  | .s ns => some (.list (ns.map .int))
def intsD : List PyData → Option (List Int)
  | [] => some []
  | .int i :: r => (intsD r).map (i :: ·)
  | _ :: _ => none
def boolsD : List PyData → Option (List Bool)
  | [] => some []
  | .bool i :: r => (boolsD r).map (i :: ·)
  | _ :: _ => none
def strsD : List PyData → Option (List Str)
  | [] => some []
  | .str i :: r => (strsD r).map (i :: ·)
  | _ :: _ => none
def cap : Nat := 100000
def cutD (xs : List PyData) (lo hi : Option Int) : List PyData := (xs.drop (HT.sIx xs.length 0 lo)).take (HT.sIx xs.length xs.length hi - HT.sIx xs.length 0 lo)
def p64 : Int := 18446744073709551616
def binD : BO → PyData → PyData → Option PyData
  | .add, .int i, .int j => some (.int (i + j))
  | .add, .list xs, .list ys => if xs.length + ys.length ≤ cap then some (.list (xs ++ ys)) else none
  | .add, .tuple xs, .tuple ys => if xs.length + ys.length ≤ cap then some (.tuple (xs ++ ys)) else none
  | .add, .str x, .str y => if x.length + y.length ≤ cap then some (.str (x ++ y)) else none
  | .sub, .int i, .int j => some (.int (i - j))
  | .mul, .int i, .int j => if (-p64 < i ∧ i < p64) ∨ (-p64 < j ∧ j < p64) then some (.int (i * j)) else none
  | .mul, .str z, .int n => if 2 ≤ n ∧ n ≤ 1000 ∧ 1 ≤ z.length ∧ z.length ≤ 1000 then some (.str (repS z n)) else none
  | .mul, .list xs, .int k => if 0 ≤ k ∧ k ≤ 100000 ∧ xs.length * k.toNat ≤ cap then some (.list (List.replicate k.toNat xs).flatten) else none
  | .mod, .int i, .int j => if j ≠ 0 then some (.int (i.fmod j)) else none
  | .fdv, .int i, .int j => if j ≠ 0 ∧ j.natAbs < 1073741824 then some (.int (i.fdiv j)) else none
  | .pow, .int i, .int j => if 0 ≤ j ∧ j ≤ 1000000 ∧ i.natAbs < 18446744073709551616 then some (.int (i ^ j.toNat)) else none
  | _, _, _ => none
def isNone : PyData → Bool
  | .none => true
  | _ => false
def cmpD : CO → PyData → PyData → Option Bool
  | .lt, .int i, .int j => some (decide (i < j))
  | .lt, .list xs, .list ys => match intsD xs, intsD ys with
    | some p, some q => some (lexI p q)
    | _, _ => none
  | .le, .int i, .int j => some (decide (i ≤ j))
  | .gt, .int i, .int j => some (decide (j < i))
  | .ge, .int i, .int j => some (decide (j ≤ i))
  | .eq, x, y => if SeqAt.shaped x && SeqAt.shaped y then some (PyData.eqv x y) else none
  | .ne, x, y => if SeqAt.shaped x && SeqAt.shaped y then some (!PyData.eqv x y) else none
  | .is, .bool a, .bool b => some (decide (a = b))
  | .isn, .bool a, .bool b => some (!decide (a = b))
  | .is, .none, .bool _ => some false
  | .is, .int _, .bool _ => some false
  | .is, x, .none => some (isNone x)
  | .isn, x, .none => some (!isNone x)
  | .inn, x, .list ys => if SeqAt.shaped x && SeqAt.shaped (.list ys) then some (ys.any fun y => PyData.eqv y x) else none
  | .nin, x, .list ys => if SeqAt.shaped x && SeqAt.shaped (.list ys) then some (!ys.any fun y => PyData.eqv y x) else none
  | .inn, x, .tuple ys => if SeqAt.shaped x && SeqAt.shaped (.tuple ys) then some (ys.any fun y => PyData.eqv y x) else none
  | .nin, x, .tuple ys => if SeqAt.shaped x && SeqAt.shaped (.tuple ys) then some (!ys.any fun y => PyData.eqv y x) else none
  | .inn, .str c, .str z => match c.cps.toList with
    | [k] => some (decide (k ∈ z.cps.toList))
    | _ => none
  | .nin, .str c, .str z => match c.cps.toList with
    | [k] => some (!decide (k ∈ z.cps.toList))
    | _ => none
  | _, _, _ => none
def cmpW (op : CO) (v w : W) (M : MH) : Option Bool :=
  match op, v, w with
  | .is, .m _, .d .none => some false
  | .isn, .m _, .d .none => some true
  | op, v, w => match view M v, view M w with
    | some x, some y => cmpD op x y
    | _, _ => none
def subD : PyData → Int → Option PyData
  | .list xs, i => atI xs i
  | .tuple xs, i => atI xs i
  | .str z, i => if z.length ≤ cap then (atI z.cps.toList i).map fun c => .str ⟨#[c]⟩ else none
  | _, _ => none
def sliD : PyData → Option Int → Option Int → Option PyData
  | .list xs, lo, hi => some (.list (cutD xs lo hi))
  | .tuple xs, lo, hi => some (.tuple (cutD xs lo hi))
  | .str z, lo, hi => if z.length ≤ cap then some (.str (cutS z lo hi)) else none
  | _, _, _ => none
def maxL : Int → List Int → Int
  | a, [] => a
  | a, b :: r => maxL (if b > a then b else a) r
def minL : Int → List Int → Int
  | a, [] => a
  | a, b :: r => minL (if b < a then b else a) r
def insI (x : Int) : List Int → List Int
  | [] => [x]
  | y :: r => if x ≤ y then x :: y :: r else y :: insI x r
def sortI : List Int → List Int
  | [] => []
  | x :: r => insI x (sortI r)
/-- each once -/
def nubI : List Int → List Int
  | [] => []
  | x :: r => if x ∈ r then nubI r else x :: nubI r
/-- rows of ints: all lists, or all tuples -/
def rowsD (tu : Bool) : List PyData → Option (List (List Int))
  | [] => some []
  | .list xs :: r => if tu then none else match intsD xs, rowsD tu r with
    | some (a :: p), some q => some ((a :: p) :: q)
    | _, _ => none
  | .tuple xs :: r => if tu then (match intsD xs, rowsD tu r with
    | some (a :: p), some q => some ((a :: p) :: q)
    | _, _ => none) else none
  | _ :: _ => none
def rowsA (xs : List PyData) : Option (Bool × List (List Int)) := match rowsD false xs with
  | some r => some (false, r)
  | none => (rowsD true xs).map fun r => (true, r)
def sortedD (xs : List PyData) : Option PyData := match intsD xs with
  | some ns => some (.list ((sortI ns).map .int))
  | none => (rowsA xs).map fun p => .list ((sortR p.2).map (rowD p.1))
def minD1 (xs : List PyData) : Option PyData := match intsD xs with
  | some (a :: r) => some (.int (minL a r))
  | _ => match rowsA xs with
    | some (tu, a :: r) => some (rowD tu (minR a r))
    | _ => none
def lenD : PyData → Option Nat
  | .list xs => some xs.length
  | .tuple xs => some xs.length
  | .str z => if z.length ≤ cap then some z.length else none
  | _ => none
def on1 (f : PyData → Option PyData) : List PyData → Option PyData
  | [x] => f x
  | _ => none
def onL (f : List PyData → Option PyData) : List PyData → Option PyData
  | [.list xs] => f xs
  | _ => none
def onLT (f : List PyData → PyData) : List PyData → Option PyData
  | [.list xs] => some (f xs)
  | [.tuple xs] => some (f xs)
  | _ => none
def onII (f : Int → Int → PyData) : List PyData → Option PyData
  | [.int i, .int j] => some (f i j)
  | _ => none
def onI (f : Int → Option PyData) : List PyData → Option PyData
  | [.int i] => f i
  | _ => none
def onS (f : Str → Option PyData) : List PyData → Option PyData
  | [.str i] => f i
  | _ => none
def bltD : BF → List PyData → Option PyData
  | .len => on1 fun x => (lenD x).map fun n => .int n
  | .max1 => onL fun xs => match intsD xs with
    | some (a :: r) => some (.int (maxL a r))
    | _ => none
  | .min1 => onL minD1
  | .max2 => onII fun i j => .int (if j > i then j else i)
  | .min2 => onII fun i j => .int (if j < i then j else i)
  | .sum => onL fun xs => (intsD xs).map fun ns => .int ns.sum
  | .all => onL fun xs => (boolsD xs).map fun bs => .bool (bs.all id)
  | .any => onL fun xs => (boolsD xs).map fun bs => .bool (bs.any id)
  | .sorted => onL sortedD
  | .list => onLT .list
  | .tuple => onLT .tuple
  | .str => onI fun i => if i.natAbs < 4294967296 then some (.str (toString i)) else none
  | .int => onS fun a => if a.length ≤ 640 then (PySem.intText? a).map .int else none
def isiD : IT → PyData → Option Bool
  | .own _, _ => none
  | .verr, _ => none
  | _, .dict _ => none
  | .int, .int _ => some true
  | .int, .bool _ => some true
  | .int, _ => some false
  | .bool, .bool _ => some true
  | .bool, _ => some false
  | .list, .list _ => some true
  | .list, _ => some false
  | .tuple, .tuple _ => some true
  | .tuple, _ => some false
  | .str, .str _ => some true
  | .str, _ => some false
def isiE : IT → Nat → Option Bool
  | .own k, c => if 1 ≤ c ∧ c < 6 ∧ k < 6 then some (decide (c = k) || decide (k = 0)) else none
  | .verr, c => if 1 ≤ c ∧ c < 6 then some true else none
  | _, _ => none
def isiW (t : IT) (w : W) (M : MH) : Option Bool :=
  match w with
  | .d x => isiD t x
  | .m n => match M[n]? with
    | some (.exc c) => isiE t c
    | _ => none
  | .s _ => none
def mthD : MF → PyData → PyData → Option PyData
  | .index, .list xs, y => if SeqAt.shaped y && SeqAt.shaped (.list xs) then (match xs.findIdx? fun z => PyData.eqv z y with
    | some j => some (.int j)
    | none => none) else none
  | .count, .list xs, y => if SeqAt.shaped y && SeqAt.shaped (.list xs) then some (.int (xs.countP fun z => PyData.eqv z y)) else none
  | .join, .str a, .list xs => match strsD xs with
    | some ys => if (ys.map (·.length)).sum + ys.length * a.length ≤ cap then some (.str (Txt.join a ys)) else none
    | none => none
  | .split, .str a, .str b => if (b.length == 0) = false ∧ a.length ≤ cap then some (.list ((Txt.split a b).map .str)) else none
  | _, _, _ => none
def onlyL : W → Option PyData
  | .d (.list xs) => some (.list xs)
  | _ => none
def onlyS : W → Option PyData
  | .d (.str x) => some (.str x)
  | _ => none
def mthO : MF → W → Option PyData
  | .index => onlyL
  | .count => onlyL
  | .join => onlyS
  | .split => onlyS
def isMB : BF → Bool
  | .list => true
  | _ => false

/-- the items of an iterable -/
def rngL : Int → Nat → List PyData
  | _, 0 => []
  | i, n + 1 => .int i :: rngL (i + 1) n
def rngDn : Int → Nat → List PyData
  | _, 0 => []
  | i, n + 1 => .int i :: rngDn (i - 1) n
def p62 : Int := 4611686018427387904
def smallI (i : Int) : Bool := decide (-100000 ≤ i) && decide (i ≤ 100000)
def rngD : List PyData → Option (List PyData)
  | [.int j] => if smallI j then some (rngL 0 j.toNat) else none
  | [.int i, .int j] => if smallI i && smallI j then some (rngL i (j - i).toNat) else none
  | [.int i, .int j, .int k] => if smallI i && smallI j && decide (k = -1) then some (rngDn i (i - j).toNat) else none
  | _ => none
def seqD : Nat → PyData → Option (List PyData)
  | 0, .list xs => some xs
  | 1, .tuple xs => some xs
  | 2, .str z => some (z.cps.toList.map fun c => .str ⟨#[c]⟩)
  | _, _ => none
def zipD : List PyData → List PyData → List PyData
  | x :: xs, y :: ys => .tuple [x, y] :: zipD xs ys
  | _, _ => []
def enmD : Nat → List PyData → List PyData
  | _, [] => []
  | i, x :: xs => .tuple [.int i, x] :: enmD (i + 1) xs

/-- storing an item into a target: one name, or several of a tuple -/
def putAll : List Nat → List PyData → Sl → Option Sl
  | [], [], σ => some σ
  | i :: is, x :: xs, σ => putAll is xs (σ.set i (some (.d x)))
  | _, _, _ => none
def put (g : List Nat) (x : PyData) (σ : Sl) : Option Sl :=
  match g with
  | [i] => some (σ.set i (some (.d x)))
  | g => match x with
    | .tuple xs => putAll g xs σ
    | _ => none
def wipeW (σ : Sl) : List Nat → Sl
  | [] => σ
  | v :: vs => (wipeW σ vs).set v none

/-- dicts -/
def keyOk : PyData → Bool
  | .tuple xs => match nkD (.tuple xs) with
    | some k => decide (k.depth ≤ 8)
    | none => false
  | _ => false
def keqD (a b : PyData) : Bool := match nkD a, nkD b with
  | some x, some y => NestedKey.beq x y
  | _, _ => false
def dlook (k : PyData) : List (PyData × PyData) → Option PyData
  | [] => none
  | (a, v) :: r => if keqD a k then some v else dlook k r
def dput (k v : PyData) (kvs : List (PyData × PyData)) : List (PyData × PyData) := match dlook k kvs with
  | some _ => kvs.map fun q => if keqD q.1 k then (q.1, v) else q
  | none => kvs ++ [(k, v)]
def isIntD : PyData → Bool
  | .int _ => true
  | _ => false
def dsortD (t : Bool) (kvs : List (PyData × PyData)) : Option PyData := if t then (rowsD true (kvs.map (·.1))).map (fun r => .list ((sortR r).map (rowD true))) else
  match intsD (kvs.map (·.1)) with
  | some ns => if ns.length < 64 then some (.list ((sortI ns).map .int)) else none
  | none => none
def fmtD : PyData → Option Str
  | .str y => if y.length ≤ cap then some y else none
  | .int i => if i.natAbs < 4294967296 ∧ (toString i : Str).length ≤ cap then some (toString i) else none
  | _ => none
def fmtW : W → Option Str
  | .d x => fmtD x
  | _ => none
def refOk (n : Nat) : W → Bool
  | .d _ => true
  | .s _ => true
  | .m k => decide (k < n)
def objOk (n : Nat) : MO → Bool
  | .lst ws => ws.all (refOk n)
  | .ins ws => ws.all (refOk n)
  | _ => true

/-- the names of an object's parts, in the order of their first stores -/
def atNs : List Str := ["width", "values_in", "line", "past"]
def putA (k : Nat) (w : W) (ws : List W) : Option (List W) := if k < ws.length then some (ws.set k w) else if k = ws.length ∧ k < 4 then some (ws ++ [w]) else none
abbrev CF := Nat → List W → MH → Option Out
/-- a call: 0 by data alone, 1 what is new is dropped, 2 what is new is kept -/
def callW (cf : CF) (mode f : Nat) (ws : List W) (M : MH) : Option Out :=
  match mode with
  | 0 => match dats ws with
    | none => none
    | some _ => match cf f ws [] with
      | some (.val (.d x) _) => some (.val (.d x) M)
      | some (.exc c _) => some (.exc c M)
      | _ => none
  | 1 => match cf f ws M with
    | some (.val w M') => if refOk M.length w && (M'.take M.length).all (objOk M.length) then some (.val w (M'.take M.length)) else none
    | some (.exc c M') => if (M'.take M.length).all (objOk M.length) then some (.exc c (M'.take M.length)) else none
    | none => none
  | _ => cf f ws M

/-- a new list -/
def newL (mu : Bool) (xs : List PyData) (M : MH) : Out :=
  match mu with
  | true => .val (.m M.length) (M ++ [.lst (xs.map .d)])
  | false => .val (.d (.list xs)) M

def lrV (tu mu : Bool) (i j : Int) (M : MH) : Option Out := if smallI i ∧ smallI j ∧ (rngL i (j - i).toNat).length ≤ cap then (if tu then some (.val (.d (.tuple (rngL i (j - i).toNat))) M) else some (newL mu (rngL i (j - i).toNat) M)) else none
def obO (o : Option Out) (f : W → MH → Option Out) : Option Out :=
  match o with
  | some (.val w M) => f w M
  | some (.exc c M) => some (.exc c M)
  | none => none
def obL (o : Option OutL) (f : List W → MH → Option Out) : Option Out :=
  match o with
  | some (.val w M) => f w M
  | some (.exc c M) => some (.exc c M)
  | none => none
def obI (o : Option OutI) (f : List PyData → MH → Option Out) : Option Out :=
  match o with
  | some (.val w M) => f w M
  | some (.exc c M) => some (.exc c M)
  | none => none
def obP (o : Option OutP) (f : Option Int → MH → Option Out) : Option Out :=
  match o with
  | some (.val w M) => f w M
  | some (.exc c M) => some (.exc c M)
  | none => none
def ret (o : Option PyData) (M : MH) : Option Out :=
  match o with
  | some x => some (.val (.d x) M)
  | none => none
def retB (o : Option Bool) (M : MH) : Option Out :=
  match o with
  | some x => some (.val (.d (.bool x)) M)
  | none => none

inductive CR where
  | skip (M : MH)
  | keep (y : PyData) (M : MH)
def obS (o : Option Out) (σ : Sl) (f : W → MH → Option SO) : Option SO :=
  match o with
  | some (.val w M) => f w M
  | some (.exc c M) => some (.ex c σ M)
  | none => none
def obLS (o : Option OutL) (σ : Sl) (f : List W → MH → Option SO) : Option SO :=
  match o with
  | some (.val w M) => f w M
  | some (.exc c M) => some (.ex c σ M)
  | none => none
def obIS (o : Option OutI) (σ : Sl) (f : List PyData → MH → Option SO) : Option SO :=
  match o with
  | some (.val w M) => f w M
  | some (.exc c M) => some (.ex c σ M)
  | none => none
/-- a comprehension's turns -/
def lcF (step : PyData → MH → Option CR) : List PyData → MH → Option (List PyData × MH)
  | [], M => some ([], M)
  | x :: xs, M => match step x M with
    | some (.skip M1) => lcF step xs M1
    | some (.keep y M1) => match lcF step xs M1 with
      | some (ys, M2) => some (y :: ys, M2)
      | none => none
    | none => none
/-- a loop's turns -/
def forF (step : PyData → Sl → MH → Option SO) : List PyData → Sl → MH → Option SO
  | [], σ, M => some (.nx σ M)
  | x :: xs, σ, M => match step x σ M with
    | some (.nx σ1 M1) => forF step xs σ1 M1
    | o => o
def whF (t : Sl → MH → Option Out) (step : Sl → MH → Option SO) : Nat → Sl → MH → Option SO
  | 0, _, _ => none
  | n + 1, σ, M => match t σ M with
    | some (.val (.d (.bool true)) M1) => match step σ M1 with
      | some (.nx σ1 M2) => whF t step n σ1 M2
      | o => o
    | some (.val (.d (.bool false)) M1) => some (.nx σ M1)
    | some (.exc c M1) => some (.ex c σ M1)
    | _ => none
def views (M : MH) : List W → Option (List PyData)
  | [] => some []
  | w :: ws => match view M w, views M ws with
    | some x, some xs => some (x :: xs)
    | _, _ => none
def frzM (w : W) (M : MH) : Option (PyData × MH) :=
  match w with
  | .m n => match M[n]? with
    | some (.lst ws) => match dats ws with
      | some xs => some (.list xs, M.set n .dead)
      | none => none
    | _ => none
  | _ => none
def setAll : List Nat → List W → Sl → Option Sl
  | [], [], σ => some σ
  | i :: is, w :: ws, σ => setAll is ws (σ.set i (some w))
  | _, _, _ => none

section
variable (cf : CF)
mutual
def ev : IE → Sl → MH → Option Out
  | .var i, σ, M => match σ[i]? with
    | some (some w) => some (.val w M)
    | _ => none
  | .cst x, _, M => some (.val (.d x) M)
  | .glb _ v, _, M => some (.val (.d v) M)
  | .bin op a b, σ, M => obO (ev a σ M) fun v M1 => obO (ev b σ M1) fun w M2 => match dat v, dat w with
    | some x, some y => ret (binD op x y) M2
    | _, _ => none
  | .neg a, σ, M => obO (ev a σ M) fun v M1 => match v with
    | .d (.int i) => some (.val (.d (.int (-i))) M1)
    | _ => none
  | .cmp op a b, σ, M => obO (ev a σ M) fun v M1 => obO (ev b σ M1) fun w M2 => retB (cmpW op v w M2) M2
  | .chn o p a b c, σ, M => obO (ev a σ M) fun v M1 => obO (ev b σ M1) fun w M2 => match cmpW o v w M2 with
    | some true => obO (ev c σ M2) fun u M3 => retB (cmpW p w u M3) M3
    | some false => some (.val (.d (.bool false)) M2)
    | none => none
  | .bop c es, σ, M => evB c es σ M
  | .not a, σ, M => obO (ev a σ M) fun v M1 => match v with
    | .d (.bool b) => some (.val (.d (.bool (!b))) M1)
    | _ => none
  | .ife t a b, σ, M => obO (ev t σ M) fun v M1 => match v with
    | .d (.bool true) => ev a σ M1
    | .d (.bool false) => ev b σ M1
    | _ => none
  | .lst mu es, σ, M => obL (evs es σ M) fun ws M1 => match mu with
    | true => if ws.length ≤ cap then some (.val (.m M1.length) (M1 ++ [.lst ws])) else none
    | false => match dats ws with
      | some xs => if xs.length ≤ cap then some (.val (.d (.list xs)) M1) else none
      | none => none
  | .tup es, σ, M => obL (evs es σ M) fun ws M1 => match dats ws with
      | some xs => if xs.length ≤ cap then some (.val (.d (.tuple xs)) M1) else none
      | none => none
  | .sub a i, σ, M => obO (ev a σ M) fun v M1 => obO (ev i σ M1) fun w M2 => match w with
    | .d (.int k) => match v with
      | .m n => match M2[n]? with
        | some (.lst ws) => match atI ws k with
          | some z => some (.val z M2)
          | none => none
        | _ => none
      | .d x => ret (subD x k) M2
      | .s _ => none
    | _ => none
  | .sli a lo hi, σ, M => obO (ev a σ M) fun v M1 => obP (evO lo σ M1) fun l M2 => obP (evO hi σ M2) fun h M3 => match view M3 v with
    | some x => ret (sliD x l h) M3
    | none => none
  | .rev a, σ, M => obO (ev a σ M) fun v M1 => match view M1 v with
    | some (.list xs) => some (.val (.d (.list xs.reverse)) M1)
    | some (.tuple xs) => some (.val (.d (.tuple xs.reverse)) M1)
    | _ => none
  | .call mode f es, σ, M => obL (evs es σ M) fun ws M1 => callW cf mode f ws M1
  | .blt b mu es, σ, M => obL (evs es σ M) fun ws M1 => match views M1 ws with
    | some xs => match bltD b xs with
      | some (.list zs) => some (newL (mu && isMB b) zs M1)
      | some z => some (.val (.d z) M1)
      | none => none
    | none => none
  | .isi a t, σ, M => obO (ev a σ M) fun v M1 => retB (isiW t v M1) M1
  | .mth f o e, σ, M => obO (ev o σ M) fun v M1 => match mthO f v with
    | none => none
    | some x => obO (ev e σ M1) fun w M2 => match view M2 w with
      | some y => ret (mthD f x y) M2
      | none => none
  | .lc mu own it g ifs elt, σ, M => obI (evi it σ M) fun xs M1 => match lcF (fun x N => match put g x (wipeW σ own) with
      | none => none
      | some σ1 => match evC ifs σ1 N with
        | some (true, N1) => match ev elt σ1 N1 with
          | some (.val (.d y) N2) => some (.keep y N2)
          | _ => none
        | some (false, N1) => some (.skip N1)
        | none => none) xs M1 with
      | some (ys, M2) => if ys.length ≤ cap then some (newL mu ys M2) else none
      | none => none
  | .dct t, _, M => some (.val (.m M.length) (M ++ [.dct t []]))
  | .dsb a i, σ, M => obO (ev a σ M) fun v M1 => obO (ev i σ M1) fun w M2 => match v, w with
    | .m n, .d k => match M2[n]? with
      | some (.dct true kvs) => if keyOk k then ret (dlook k kvs) M2 else none
      | _ => none
    | _, _ => none
  | .din n i a, σ, M => obO (ev i σ M) fun w M1 => obO (ev a σ M1) fun v M2 => match v, w with
    | .m m, .d k => match M2[m]? with
      | some (.dct true kvs) => if keyOk k then some (.val (.d (.bool (if n then !(dlook k kvs).isSome else (dlook k kvs).isSome))) M2) else none
      | _ => none
    | _, _ => none
  | .dgt a i d, σ, M => obO (ev a σ M) fun v M1 => match v with
    | .m n => match M1[n]? with
      | some (.dct true _) => obO (ev i σ M1) fun w M2 => obO (ev d σ M2) fun u M3 => match w, u, M3[n]? with
        | .d k, .d y, some (.dct true kvs) => if keyOk k then some (.val (.d ((dlook k kvs).getD y)) M3) else none
        | _, _, _ => none
      | _ => none
    | _ => none
  | .dln a, σ, M => obO (ev a σ M) fun v M1 => match v with
    | .m n => match M1[n]? with
      | some (.dct true kvs) => some (.val (.d (.int (kvs.length : Nat))) M1)
      | _ => none
    | _ => none
  | .dso a, σ, M => obO (ev a σ M) fun v M1 => match v with
    | .m n => match M1[n]? with
      | some (.dct t kvs) => ret (dsortD t kvs) M1
      | _ => none
    | _ => none
  | .lr1 tu mu b, σ, M => obO (ev b σ M) fun w M1 => match w with
    | .d (.int j) => lrV tu mu 0 j M1
    | _ => none
  | .lr2 tu mu a b, σ, M => obO (ev a σ M) fun v M1 => obO (ev b σ M1) fun w M2 => match v, w with
    | .d (.int i), .d (.int j) => lrV tu mu i j M2
    | _, _ => none
  | .fst a b, σ, M => obO (ev a σ M) fun v M1 => match fmtW v with
    | some s => obO (ev b σ M1) fun w M2 => match fmtW w with
      | some r => if s.length + r.length ≤ cap then some (.val (.d (.str (Str.empty ++ s ++ (":" : Str) ++ r))) M2) else none
      | none => none
    | none => none
  | .sse a, σ, M => obO (ev a σ M) fun v M1 => match v with
    | .d (.list xs) => match intsD xs with
      | some ns => if ns.length < 64 then some (.val (.d (.list ((sortI (nubI ns)).map .int))) M1) else none
      | none => none
    | _ => none
  | .att a k, σ, M => obO (ev a σ M) fun v M1 => match v with
    | .m n => match M1[n]? with
      | some (.ins ws) => match ws[k]? with
        | some w => some (.val w M1)
        | none => none
      | _ => none
    | _ => none
  | .mkI f es, σ, M => obL (evs es σ M) fun ws M1 => match cf f (.m M1.length :: ws) (M1 ++ [.ins []]) with
    | some (.val (.d .none) M2) => some (.val (.m M1.length) M2)
    | some (.exc c M2) => some (.exc c M2)
    | _ => none
  | .mct mode f _ o es, σ, M => obO (ev o σ M) fun v M1 => match v with
    | .m n => match M1[n]? with
      | some (.ins _) => obL (evs es σ M1) fun ws M2 => callW cf mode f (.m n :: ws) M2
      | _ => none
    | _ => none
  | .pop o, σ, M => obO (ev o σ M) fun v M1 => match v with
    | .m n => match M1[n]? with
      | some (.lst ws) => match ws[ws.length - 1]? with
        | some w => some (.val w (M1.set n (.lst ws.dropLast)))
        | none => none
      | _ => none
    | _ => none
  | .oln f a, σ, M => obO (ev a σ M) fun v M1 => match v with
    | .m n => match M1[n]? with
      | some (.ins _) => match callW cf 1 f [.m n] M1 with
        | some (.val (.d (.int i)) M2) => if 0 ≤ i ∧ i < 1000000 then some (.val (.d (.int i)) M2) else none
        | _ => none
      | _ => none
    | _ => none
def evs : IEs → Sl → MH → Option OutL
  | .nil, _, M => some (.val [] M)
  | .cons e es, σ, M => match ev e σ M with
    | some (.val w M1) => match evs es σ M1 with
      | some (.val ws M2) => some (.val (w :: ws) M2)
      | o => o
    | some (.exc c M1) => some (.exc c M1)
    | none => none
def evO : IEs → Sl → MH → Option OutP
  | .nil, _, M => some (.val none M)
  | .cons e _, σ, M => match ev e σ M with
    | some (.val (.d (.int i)) M1) => some (.val (some i) M1)
    | some (.val _ _) => none
    | some (.exc c M1) => some (.exc c M1)
    | none => none
def evB : Bool → IEs → Sl → MH → Option Out
  | _, .nil, _, _ => none
  | c, .cons e es, σ, M => match es with
    | .nil => ev e σ M
    | .cons e' es' => obO (ev e σ M) fun v M1 => match v with
      | .d (.bool b) => if b = c then evB c es σ M1 else some (.val (.d (.bool b)) M1)
      | _ => none
def evC : IEs → Sl → MH → Option (Bool × MH)
  | .nil, _, M => some (true, M)
  | .cons e .nil, σ, M => match ev e σ M with
    | some (.val (.d (.bool b)) M1) => some (b, M1)
    | _ => none
  | .cons _ (.cons _ _), _, _ => none
def evi : II → Sl → MH → Option OutI
  | .seq k e, σ, M => match ev e σ M with
    | some (.val w M1) => match dat w with
      | some x => (seqD k x).map fun xs => .val xs M1
      | none => none
    | some (.exc c M1) => some (.exc c M1)
    | none => none
  | .rng es, σ, M => match evs es σ M with
    | some (.val ws M1) => match dats ws with
      | some xs => (rngD xs).map fun ys => .val ys M1
      | none => none
    | some (.exc c M1) => some (.exc c M1)
    | none => none
  | .zip es, σ, M => match evs es σ M with
    | some (.val [.d (.list xs), .d (.list ys)] M1) => some (.val (zipD xs ys) M1)
    | some (.val _ _) => none
    | some (.exc c M1) => some (.exc c M1)
    | none => none
  | .enm es, σ, M => match evs es σ M with
    | some (.val [.d (.list xs)] M1) => some (.val (enmD 0 xs) M1)
    | some (.val _ _) => none
    | some (.exc c M1) => some (.exc c M1)
    | none => none
end
mutual
def exS : IS → Sl → MH → Option SO
  | .asg i e, σ, M => obS (ev cf e σ M) σ fun w M1 => some (.nx (σ.set i (some w)) M1)
  | .asgC i mu own it g ifs elt, σ, M => obS (ev cf (.lc mu own it g ifs elt) σ M) σ fun w M1 => some (.nx (σ.set i (some w)) M1)
  | .asgT is e, σ, M => obS (ev cf e σ M) σ fun w M1 => match w with
    | .d (.tuple xs) => match putAll is xs σ with
      | some σ1 => some (.nx σ1 M1)
      | none => none
    | _ => none
  | .asgP is es, σ, M => obLS (evs cf es σ M) σ fun ws M1 => match setAll is ws σ with
    | some σ1 => some (.nx σ1 M1)
    | none => none
  | .setI o i e, σ, M => obS (ev cf e σ M) σ fun w M1 => obS (ev cf o σ M1) σ fun v M2 => obS (ev cf i σ M2) σ fun k M3 => match v, k with
    | .m n, .d (.int z) => match M3[n]? with
      | some (.lst ws) => match ixN ws.length z with
        | some j => some (.nx σ (M3.set n (.lst (ws.set j w))))
        | none => none
      | _ => none
    | _, _ => none
  | .setD o i e, σ, M => obS (ev cf e σ M) σ fun w M1 => obS (ev cf o σ M1) σ fun v M2 => obS (ev cf i σ M2) σ fun k M3 => match w, v, k with
    | .d y, .m n, .d z => match M3[n]? with
      | some (.dct true kvs) => if keyOk z ∧ kvs.length < cap then some (.nx σ (M3.set n (.dct true (dput z y kvs)))) else none
      | some (.dct false kvs) => if isIntD z ∧ kvs.length < cap then some (.nx σ (M3.set n (.dct false (dput z y kvs)))) else none
      | _ => none
    | _, _, _ => none
  | .aug op i e, σ, M => match σ[i]? with
    | some (some v) => obS (ev cf e σ M) σ fun w M1 => match v, w with
        | .d (.int a), .d (.int b) => match op with
          | .add => some (.nx (σ.set i (some (.d (.int (a + b))))) M1)
          | .sub => some (.nx (σ.set i (some (.d (.int (a - b))))) M1)
          | _ => none
        | .m n, .d (.list xs) => match op with
          | .add => match M1[n]? with
            | some (.lst ws) => if ws.length + xs.length ≤ cap then some (.nx σ (M1.set n (.lst (ws ++ xs.map .d)))) else none
            | _ => none
          | _ => none
        | _, _ => none
    | _ => none
  | .exp e, σ, M => obS (ev cf e σ M) σ fun _ M1 => some (.nx σ M1)
  | .app o e, σ, M => obS (ev cf o σ M) σ fun v M1 => match v with
    | .m n => match M1[n]? with
      | some (.lst _) => obS (ev cf e σ M1) σ fun w M2 => match M2[n]? with
        | some (.lst ws) => if ws.length < cap then some (.nx σ (M2.set n (.lst (ws ++ [w])))) else none
        | _ => none
      | _ => none
    | _ => none
  | .ret e, σ, M => obS (ev cf e σ M) σ fun w M1 => some (.rt w M1)
  | .ite t a b, σ, M => obS (ev cf t σ M) σ fun w M1 => match w with
    | .d (.bool true) => exSs a σ M1
    | .d (.bool false) => exSs b σ M1
    | _ => none
  | .for it g b, σ, M => obIS (evi cf it σ M) σ fun xs M1 => forF (fun x σ1 N => match put g x σ1 with
      | some σ2 => exSs b σ2 N
      | none => none) xs σ M1
  | .whl t b, σ, M => whF (ev cf t) (exSs b) 2000 σ M
  | .rse c, σ, M => if 1 ≤ c ∧ c < 6 then some (.ex c σ M) else none
  | .try b i j, σ, M => match exSs b σ M with
    | some (.ex c σ1 M1) => if 1 ≤ c ∧ c < 6 then some (.nx ((σ1.set j (some (.m M1.length))).set i none) (M1 ++ [.exc c])) else none
    | o => o
  | .pass, σ, M => some (.nx σ M)
  | .frz i, σ, M => match σ[i]? with
    | some (some w) => match frzM w M with
      | some (x, M1) => some (.nx (σ.set i (some (.d x))) M1)
      | none => none
    | _ => none
  | .setA o k e, σ, M => obS (ev cf e σ M) σ fun w M1 => obS (ev cf o σ M1) σ fun v M2 => match v with
    | .m n => match M2[n]? with
      | some (.ins ws) => match putA k w ws with
        | some us => some (.nx σ (M2.set n (.ins us)))
        | none => none
      | _ => none
    | _ => none
def exSs : ISs → Sl → MH → Option SO
  | .nil, σ, M => some (.nx σ M)
  | .cons s ss, σ, M => match exS s σ M with
    | some (.nx σ1 M1) => exSs ss σ1 M1
    | o => o
end
end
/-- a def: its name, its names by slot, how many of them are parameters, its body -/
structure FI where
  name : Str
  N : List Str
  np : Nat
  body : ISs
def fin : Option SO → Option Out
  | some (.nx _ M) => some (.val (.d .none) M)
  | some (.rt w M) => some (.val w M)
  | some (.ex c _ M) => some (.exc c M)
  | none => none
def startW (fi : FI) (ws : List W) : Sl := ws.map some ++ List.replicate (fi.N.length - ws.length) none
def run (T : List FI) : Nat → CF
  | 0, _, _, _ => none
  | k + 1, f, ws, M => match T[f]? with
    | none => none
    | some fi => if ws.length = fi.np then fin (exSs (run T k) fi.body (startW fi ws) M) else none
end Wl

set_option Elab.async false
set_option linter.all false
set_option maxRecDepth 100000
set_option maxHeartbeats 1000000
namespace Wl
open PySem PySem.Spec PyProof.Rows L2

/-! data in a heap that stands still -/
mutual
inductive DR (F : Hp) : V → PyData → Prop
  | non : DR F .non .none
  | bl (b : Bool) : DR F (.bl b) (.bool b)
  | int (i : Int) : DR F (.int i) (.int i)
  | str (x : Str) : DR F (.str x) (.str x)
  | lst {a : Addr} {xs : List V} {ds : List PyData} : F a = some (.lst xs) → DRs F xs ds → DR F (.ref a) (.list ds)
  | tup {a : Addr} {xs : List V} {ds : List PyData} : F a = some (.tup xs) → DRs F xs ds → DR F (.ref a) (.tuple ds)
inductive DRs (F : Hp) : List V → List PyData → Prop
  | nil : DRs F [] []
  | cons {v : V} {vs : List V} {d : PyData} {ds : List PyData} : DR F v d → DRs F vs ds → DRs F (v :: vs) (d :: ds)
end
section
variable {K : PySem.W.Frag} {F F' H H' : Hp}
mutual
theorem DR.mono (e : Same F F') : ∀ (d : PyData) (v : V), DR F v d → DR F' v d
  | .none, _, h => by
    cases h
    exact .non
  | .bool b, _, h => by
    cases h
    exact .bl b
  | .int i, _, h => by
    cases h
    exact .int i
  | .str x, _, h => by
    cases h
    exact .str x
  | .list ds, _, h => by
    cases h with
    | lst q r => exact .lst (e _ _ q) (DRs.mono e ds _ r)
  | .tuple ds, _, h => by
    cases h with
    | tup q r => exact .tup (e _ _ q) (DRs.mono e ds _ r)
  | .dict _, _, h => by cases h
theorem DRs.mono (e : Same F F') : ∀ (ds : List PyData) (vs : List V), DRs F vs ds → DRs F' vs ds
  | [], _, h => by
    cases h
    exact .nil
  | d :: ds, _, h => by
    cases h with
    | cons q r => exact .cons (DR.mono e d _ q) (DRs.mono e ds _ r)
end
mutual
theorem DR.dp (e : Same F H) : ∀ (d : PyData) (v : V), DR F v d → Dp K H v d
  | .none, _, h => by
    cases h
    exact .non
  | .bool b, _, h => by
    cases h
    exact .bl b
  | .int i, _, h => by
    cases h
    exact .int i
  | .str x, _, h => by
    cases h
    exact .str x
  | .list ds, _, h => by
    cases h with
    | lst q r => exact .lst (.of (e _ _ q)) (DRs.dp e ds _ r)
  | .tuple ds, _, h => by
    cases h with
    | tup q r => exact .tup (.of (e _ _ q)) (DRs.dp e ds _ r)
  | .dict _, _, h => by cases h
theorem DRs.dp (e : Same F H) : ∀ (ds : List PyData) (vs : List V), DRs F vs ds → DpAll K H vs ds
  | [], _, h => by
    cases h
    exact .nil
  | d :: ds, _, h => by
    cases h with
    | cons q r => exact .cons (DR.dp e d _ q) (DRs.dp e ds _ r)
end
theorem DRs.length : ∀ {ds : List PyData} {vs : List V}, DRs F vs ds → vs.length = ds.length
  | [], _, h => by
    cases h
    rfl
  | d :: ds, _, h => by
    cases h with
    | cons q r => rw [List.length_cons, List.length_cons, DRs.length r]
theorem DRs.get : ∀ {ds : List PyData} {vs : List V} {i : Nat} {d : PyData}, DRs F vs ds → ds[i]? = some d → ∃ v, vs[i]? = some v ∧ DR F v d
  | [], _, _, _, h, e => by simp at e
  | x :: ds, _, 0, _, h, e => by
    cases h with
    | cons q r =>
      simp at e
      subst e
      exact ⟨_, rfl, q⟩
  | x :: ds, _, i + 1, _, h, e => by
    cases h with
    | cons q r =>
      obtain ⟨v, h1, h2⟩ := DRs.get (i := i) r (by simpa using e)
      exact ⟨v, by simpa using h1, h2⟩
theorem DRs.getV : ∀ {ds : List PyData} {vs : List V} {i : Nat} {v : V}, DRs F vs ds → vs[i]? = some v → ∃ d, ds[i]? = some d ∧ DR F v d
  | [], _, i, _, h, e => by
    cases h
    simp at e
  | x :: ds, _, 0, _, h, e => by
    cases h with
    | cons q r =>
      simp at e
      subst e
      exact ⟨_, rfl, q⟩
  | x :: ds, _, i + 1, _, h, e => by
    cases h with
    | cons q r =>
      obtain ⟨v, h1, h2⟩ := DRs.getV (i := i) r (by simpa using e)
      exact ⟨v, by simpa using h1, h2⟩
theorem DRs.append : ∀ {ds es : List PyData} {vs us : List V}, DRs F vs ds → DRs F us es → DRs F (vs ++ us) (ds ++ es)
  | [], _, _, _, h, k => by
    cases h
    exact k
  | d :: ds, _, _, _, h, k => by
    cases h with
    | cons q r => exact .cons q (DRs.append r k)
theorem DRs.take : ∀ {ds : List PyData} {vs : List V} (n : Nat), DRs F vs ds → DRs F (vs.take n) (ds.take n)
  | _, _, 0, _ => .nil
  | [], _, n + 1, h => by
    cases h
    exact .nil
  | d :: ds, _, n + 1, h => by
    cases h with
    | cons q r => exact .cons q (DRs.take n r)
theorem DRs.drop : ∀ {ds : List PyData} {vs : List V} (n : Nat), DRs F vs ds → DRs F (vs.drop n) (ds.drop n)
  | _, _, 0, h => h
  | [], _, n + 1, h => by
    cases h
    exact .nil
  | d :: ds, _, n + 1, h => by
    cases h with
    | cons q r => exact DRs.drop n r
theorem DRs.reverse : ∀ {ds : List PyData} {vs : List V}, DRs F vs ds → DRs F vs.reverse ds.reverse
  | [], _, h => by
    cases h
    exact .nil
  | d :: ds, _, h => by
    cases h with
    | cons q r =>
      rw [List.reverse_cons, List.reverse_cons]
      exact (DRs.reverse r).append (.cons q .nil)
theorem DRs.rep {ds : List PyData} {vs : List V} (h : DRs F vs ds) : ∀ n : Nat, DRs F (List.replicate n vs).flatten (List.replicate n ds).flatten
  | 0 => .nil
  | n + 1 => by
    rw [List.replicate_succ, List.replicate_succ, List.flatten_cons, List.flatten_cons]
    exact h.append (DRs.rep h n)
theorem DRs.ints : ∀ {ds : List PyData} {vs : List V} {ns : List Int}, DRs F vs ds → intsD ds = some ns → vs = ns.map V.int
  | [], _, _, h, e => by
    cases h
    cases e
    rfl
  | .int i :: ds, _, _, h, e => by
    cases h with
    | cons q r =>
      unfold intsD at e
      cases z : intsD ds with
      | none =>
        rw [z] at e
        cases e
      | some ms =>
        rw [z] at e
        cases e
        cases q
        rw [DRs.ints r z]
        rfl
  | .none :: _, _, _, _, e => by cases e
  | .bool _ :: _, _, _, _, e => by cases e
  | .str _ :: _, _, _, _, e => by cases e
  | .list _ :: _, _, _, _, e => by cases e
  | .tuple _ :: _, _, _, _, e => by cases e
  | .dict _ :: _, _, _, _, e => by cases e
theorem DRs.bools : ∀ {ds : List PyData} {vs : List V} {ns : List Bool}, DRs F vs ds → boolsD ds = some ns → vs = ns.map V.bl
  | [], _, _, h, e => by
    cases h
    cases e
    rfl
  | .bool i :: ds, _, _, h, e => by
    cases h with
    | cons q r =>
      unfold boolsD at e
      cases z : boolsD ds with
      | none =>
        rw [z] at e
        cases e
      | some ms =>
        rw [z] at e
        cases e
        cases q
        rw [DRs.bools r z]
        rfl
  | .none :: _, _, _, _, e => by cases e
  | .int _ :: _, _, _, _, e => by cases e
  | .str _ :: _, _, _, _, e => by cases e
  | .list _ :: _, _, _, _, e => by cases e
  | .tuple _ :: _, _, _, _, e => by cases e
  | .dict _ :: _, _, _, _, e => by cases e
theorem DRs.strs : ∀ {ds : List PyData} {vs : List V} {ns : List Str}, DRs F vs ds → strsD ds = some ns → vs = ns.map V.str
  | [], _, _, h, e => by
    cases h
    cases e
    rfl
  | .str i :: ds, _, _, h, e => by
    cases h with
    | cons q r =>
      unfold strsD at e
      cases z : strsD ds with
      | none =>
        rw [z] at e
        cases e
      | some ms =>
        rw [z] at e
        cases e
        cases q
        rw [DRs.strs r z]
        rfl
  | .none :: _, _, _, _, e => by cases e
  | .int _ :: _, _, _, _, e => by cases e
  | .bool _ :: _, _, _, _, e => by cases e
  | .list _ :: _, _, _, _, e => by cases e
  | .tuple _ :: _, _, _, _, e => by cases e
  | .dict _ :: _, _, _, _, e => by cases e
theorem DRs.of_ints : ∀ ns : List Int, DRs F (ns.map V.int) (ns.map .int)
  | [] => .nil
  | n :: ns => .cons (.int n) (DRs.of_ints ns)
theorem DRs.of_strs : ∀ ns : List Str, DRs F (ns.map V.str) (ns.map .str)
  | [] => .nil
  | n :: ns => .cons (.str n) (DRs.of_strs ns)
theorem DpAll.of_ints : ∀ ns : List Int, DpAll K H (ns.map V.int) (ns.map .int)
  | [] => .nil
  | n :: ns => .cons (.int n) (DpAll.of_ints ns)
theorem DRs.cut {ds : List PyData} {vs : List V} (h : DRs F vs ds) (lo hi : Option Int) : DRs F (cutV vs lo hi) (cutD ds lo hi) := by
  unfold cutV cutD
  rw [h.length]
  exact (h.drop _).take _
end

/-! values and stored things -/
def VR (K : PySem.W.Frag) (F : Hp) (ρ : List Addr) (v : V) : W → Prop
  | .d x => DR F v x
  | .m n => ∃ a, ρ[n]? = some a ∧ v = .ref a
  | .s ns => ∃ a, v = .ref a ∧ SqL K F a (ns.map V.int)
abbrev VRs (K : PySem.W.Frag) (F : Hp) (ρ : List Addr) : List V → List W → Prop := Paired (VR K F ρ)
/-- an exception's object -/
def excP (a : Addr) (C : Addr) : Heap → Prop := fun h => ∃ o vs, h.get? a = some o ∧ o.cls = .ref C ∧ o.dict = none ∧ o.data = .fields vs
/-- an entry of a dict -/
def ER (F : Hp) (x : XE) (q : PyData × PyData) : Prop := nkD q.1 = some x.1 ∧ x.1.depth ≤ 8 ∧ DR F (.ref x.2.1) q.1 ∧ DR F x.2.2 q.2
def KR (F : Hp) (p : Key × V) (q : PyData × PyData) : Prop := ∃ i : Int, q.1 = .int i ∧ p.1 = .inl i ∧ DR F p.2 q.2
def OR (K : PySem.W.Frag) (C : Nat → Addr) (F H : Hp) (ρ : List Addr) (a : Addr) : MO → Prop
  | .lst ws => F a = none ∧ ∃ vs, H a = some (.lst vs) ∧ VRs K F ρ vs ws
  | .dct true kvs => F a = none ∧ ∃ xs, H a = some (dctO a xs) ∧ Paired (ER F) xs kvs
  | .dct false kvs => F a = none ∧ ∃ ks, H a = some (.dK ks) ∧ Paired (KR F) ks kvs
  | .ins ws => F a = none ∧ ws.length ≤ 4 ∧ ∃ dx vs, H a = some (.ins (C 6) dx (atNs.zip vs)) ∧ VRs K F ρ vs ws
  | .exc c => F a = none ∧ H a = some (.ext (excP a (C c)))
  | .dead => True
structure Rl (K : PySem.W.Frag) (C : Nat → Addr) (F H : Hp) (ρ : List Addr) (M : MH) : Prop where
  sub : Same F H
  len : ρ.length = M.length
  nd : ρ.Nodup
  has : ∀ a ∈ ρ, H a ≠ none
  ob : ∀ (n : Nat) (a : Addr) (o : MO), ρ[n]? = some a → M[n]? = some o → OR K C F H ρ a o
/-- what a step leaves -/
structure Ext (F H : Hp) (ρ : List Addr) (F' H' : Hp) (ρ' : List Addr) : Prop where
  f : Same F F'
  h : ∀ b o, H b = some o → b ∉ ρ → H' b = some o
  n : ∀ b, F b = none → H b ≠ none → b ∉ ρ → F' b = none
  p : ∃ l, ρ' = ρ ++ l ∧ ∀ a ∈ l, H a = none
  t : ∀ b, H b ≠ none → H' b ≠ none
section
variable {K : PySem.W.Frag} {C : Nat → Addr} {F F' F1 F2 H H' H1 H2 : Hp} {ρ ρ' ρ1 ρ2 : List Addr} {M M' : MH} {v : V} {w : W} {vs : List V} {ws : List W}
theorem Ext.refl (F H : Hp) (ρ : List Addr) : Ext F H ρ F H ρ := ⟨.refl F, fun _ _ e _ => e, fun _ e _ _ => e, ⟨[], by simp, fun _ z => absurd z (by simp)⟩, fun _ e => e⟩
theorem Ext.trans (a : Ext F H ρ F1 H1 ρ1) (b : Ext F1 H1 ρ1 F2 H2 ρ2) : Ext F H ρ F2 H2 ρ2 := by
  obtain ⟨l, e1, q1⟩ := a.p
  obtain ⟨k, e2, q2⟩ := b.p
  have nin : ∀ b, H b ≠ none → b ∉ ρ → b ∉ ρ1 := fun b hb hn hm => by
    rw [e1] at hm
    rcases List.mem_append.mp hm with z | z
    · exact hn z
    · exact hb (q1 b z)
  refine ⟨a.f.trans b.f, fun c o e hn => b.h c o (a.h c o e hn) (nin c (by rw [e]; simp) hn), fun c e hc hn => b.n c (a.n c e hc hn) (a.t c hc) (nin c hc hn), ⟨l ++ k, by rw [e2, e1, List.append_assoc], fun c hc => ?_⟩, fun c hc => b.t c (a.t c hc)⟩
  rcases List.mem_append.mp hc with z | z
  · exact q1 c z
  · cases q : H c with
    | none => rfl
    | some o => exact absurd (q2 c z) (a.t c (by rw [q]; simp))
theorem getElem?_pre {α : Type} {l k : List α} {n : Nat} {x : α} (h : l[n]? = some x) : (l ++ k)[n]? = some x := by
  rw [List.getElem?_append_left (List.getElem?_eq_some_iff.mp h).1]
  exact h
theorem SqL.same {a : Addr} {xs : List V} (e : Same F F') (h : SqL K F a xs) : SqL K F' a xs := e.seq h
theorem VR.mono' (e : Same F F') (l : List Addr) (h : VR K F ρ v w) : VR K F' (ρ ++ l) v w := by
  cases w with
  | d x => exact DR.mono e _ _ h
  | m n =>
    obtain ⟨a, q, r⟩ := h
    exact ⟨a, getElem?_pre q, r⟩
  | s ns =>
    obtain ⟨a, q, r⟩ := h
    exact ⟨a, q, e.seq r⟩
theorem VR.mono (e : Ext F H ρ F' H' ρ') (h : VR K F ρ v w) : VR K F' ρ' v w := by
  obtain ⟨l, q, _⟩ := e.p
  rw [q]
  exact h.mono' e.f l
theorem VRs.mono (e : Ext F H ρ F' H' ρ') (h : VRs K F ρ vs ws) : VRs K F' ρ' vs ws := Paired.mapP h fun _ _ q => VR.mono e q
theorem VRs.length (h : VRs K F ρ vs ws) : vs.length = ws.length := Paired.length h
theorem VRs.get : ∀ {vs : List V} {ws : List W} {i : Nat} {w : W}, VRs K F ρ vs ws → ws[i]? = some w → ∃ v, vs[i]? = some v ∧ VR K F ρ v w
  | _, _, _, _, .nil, e => by simp at e
  | _, _, 0, _, .cons q r, e => by
    simp at e
    subst e
    exact ⟨_, rfl, q⟩
  | _, _, i + 1, _, .cons q r, e => by
    obtain ⟨v, h1, h2⟩ := VRs.get (i := i) r (by simpa using e)
    exact ⟨v, by simpa using h1, h2⟩
theorem VRs.append : ∀ {vs us : List V} {ws zs : List W}, VRs K F ρ vs ws → VRs K F ρ us zs → VRs K F ρ (vs ++ us) (ws ++ zs)
  | _, _, _, _, .nil, k => k
  | _, _, _, _, .cons q r, k => .cons q (VRs.append r k)
theorem VRs.set {v : V} {w : W} (q : VR K F ρ v w) : ∀ {vs : List V} {ws : List W} (i : Nat), VRs K F ρ vs ws → VRs K F ρ (vs.set i v) (ws.set i w)
  | _, _, _, .nil => .nil
  | _, _, 0, .cons _ r => .cons q r
  | _, _, i + 1, .cons z r => .cons z (VRs.set q i r)
theorem VRs.dats : ∀ {vs : List V} {ws : List W} {xs : List PyData}, VRs K F ρ vs ws → Wl.dats ws = some xs → DRs F vs xs
  | _, _, _, .nil, e => by
    cases e
    exact .nil
  | _, _, _, .cons (b := .d x) (l₂ := ws) q r, e => by
    unfold Wl.dats at e
    cases z : Wl.dats ws with
    | none =>
      rw [z] at e
      cases e
    | some ys =>
      rw [z] at e
      cases e
      exact .cons q (VRs.dats r z)
  | _, _, _, .cons (b := .m _) _ _, e => by cases e
  | _, _, _, .cons (b := .s _) _ _, e => by cases e
theorem VRs.of_data : ∀ {vs : List V} {xs : List PyData}, DRs F vs xs → VRs K F ρ vs (xs.map .d)
  | _, _, .nil => .nil
  | _, _, .cons q r => .cons q (VRs.of_data r)
theorem DRs.empty : DRs F [] [] := .nil
end
end Wl

set_option Elab.async false
set_option linter.all false
set_option maxRecDepth 100000
set_option maxHeartbeats 1000000
namespace Wl
open PySem PySem.Spec PyProof.Rows L2

section
variable {K : PySem.W.Frag} {C : Nat → Addr} {F F' F1 F2 H H' H1 H2 : Hp} {ρ ρ' ρ1 ρ2 : List Addr} {M M' : MH} {v : V} {w : W} {vs : List V} {ws : List W} {p a : Addr} {o : HO} {xs : List PyData}
theorem OR.keep {z : MO} (e : Same F F') (l : List Addr) (hF : F a = none → F' a = none) (hH : ∀ o, H a = some o → H' a = some o) (h : OR K C F H ρ a z) : OR K C F' H' (ρ ++ l) a z := by
  cases z with
  | lst ws =>
    obtain ⟨q1, vs, q2, q3⟩ := h
    exact ⟨hF q1, vs, hH _ q2, Paired.mapP q3 fun _ _ q => VR.mono' e l q⟩
  | dct t kvs =>
    cases t with
    | true =>
      obtain ⟨q1, xs, q2, q3⟩ := h
      exact ⟨hF q1, xs, hH _ q2, Paired.mapP q3 fun _ _ ⟨r1, r2, r3, r4⟩ => ⟨r1, r2, DR.mono e _ _ r3, DR.mono e _ _ r4⟩⟩
    | false =>
      obtain ⟨q1, xs, q2, q3⟩ := h
      exact ⟨hF q1, xs, hH _ q2, Paired.mapP q3 fun _ _ ⟨i, r1, r2, r3⟩ => ⟨i, r1, r2, DR.mono e _ _ r3⟩⟩
  | ins ws =>
    obtain ⟨q1, q0, dx, vs, q2, q3⟩ := h
    exact ⟨hF q1, q0, dx, vs, hH _ q2, Paired.mapP q3 fun _ _ q => VR.mono' e l q⟩
  | exc c => exact ⟨hF h.1, hH _ h.2⟩
  | dead => trivial
theorem Rl.fresh (R : Rl K C F H ρ M) (hp : H p = none) : p ∉ ρ := fun z => R.has p z hp
theorem Rl.freshF (R : Rl K C F H ρ M) (hp : H p = none) : F p = none := R.sub.free hp
theorem same_new (hp : H p = none) : Same H (upd H p o) := fun b x e => by
  rw [upd_ne (ne_of_none e hp)]
  exact e
/-- a new object that nothing is said of -/
theorem Rl.newH (R : Rl K C F H ρ M) (hp : H p = none) : Rl K C F (upd H p o) ρ M :=
  ⟨R.sub.trans (same_new hp), R.len, R.nd, fun a ha z => R.has a ha (by
      have e : a ≠ p := fun e => R.fresh hp (e ▸ ha)
      rw [upd_ne e] at z
      exact z), fun n a z e1 e2 => by
    have q := (R.ob n a z e1 e2).keep (H' := upd H p o) (.refl F) [] id (same_new hp a)
    rw [List.append_nil] at q
    exact q⟩
theorem Ext.newH (hp : H p = none) : Ext F H ρ F (upd H p o) ρ :=
  ⟨.refl F, fun b x e _ => same_new hp b x e, fun _ e _ _ => e, ⟨[], by simp, fun _ z => absurd z (by simp)⟩, fun b e z => e (by
    cases q : H b with
    | none => rfl
    | some x =>
      rw [same_new hp b x q] at z
      cases z)⟩
/-- a new object that stands still -/
theorem Rl.newF (R : Rl K C F H ρ M) (hp : H p = none) : Rl K C (upd F p o) (upd H p o) ρ M := by
  have R2 := R.newH (o := o) hp
  have sF : Same F (upd F p o) := same_new (R.freshF hp)
  refine ⟨fun b x e => ?_, R2.len, R2.nd, R2.has, fun n a z e1 e2 => ?_⟩
  · by_cases hb : b = p
    · subst hb
      rw [upd_same] at e ⊢
      exact e
    · rw [upd_ne hb] at e ⊢
      exact R.sub _ _ e
  · have ha : a ≠ p := fun e => R.fresh hp (e ▸ List.mem_of_getElem? e1)
    have q := (R2.ob n a z e1 e2).keep (H' := upd H p o) sF [] (fun h => by
      rw [upd_ne ha]
      exact h) (fun _ h => h)
    rw [List.append_nil] at q
    exact q
theorem Ext.newF (hF : F p = none) (hp : H p = none) : Ext F H ρ (upd F p o) (upd H p o) ρ := by
  have e := Ext.newH (F := F) (ρ := ρ) (o := o) hp
  exact ⟨same_new hF, e.h, fun b q hb _ => by
    rw [upd_ne (fun z : b = p => hb (by rw [z]; exact hp))]
    exact q, e.p, e.t⟩
theorem Rl.newL (R : Rl K C F H ρ M) (hp : H p = none) (d : DRs F vs xs) : Rl K C (upd F p (.lst vs)) (upd H p (.lst vs)) ρ M ∧ Ext F H ρ (upd F p (.lst vs)) (upd H p (.lst vs)) ρ ∧ DR (upd F p (.lst vs)) (.ref p) (.list xs) :=
  ⟨R.newF hp, Ext.newF (R.freshF hp) hp, .lst upd_same (DRs.mono (same_new (R.freshF hp)) _ _ d)⟩
theorem Rl.newT (R : Rl K C F H ρ M) (hp : H p = none) (d : DRs F vs xs) : Rl K C (upd F p (.tup vs)) (upd H p (.tup vs)) ρ M ∧ Ext F H ρ (upd F p (.tup vs)) (upd H p (.tup vs)) ρ ∧ DR (upd F p (.tup vs)) (.ref p) (.tuple xs) :=
  ⟨R.newF hp, Ext.newF (R.freshF hp) hp, .tup upd_same (DRs.mono (same_new (R.freshF hp)) _ _ d)⟩
theorem Ext.newM (hp : H p = none) : Ext F H ρ F (upd H p o) (ρ ++ [p]) := by
  have e := Ext.newH (F := F) (ρ := ρ) (o := o) hp
  exact ⟨e.f, e.h, e.n, ⟨[p], rfl, fun a ha => by
    have z : a = p := by simpa using ha
    rw [z]
    exact hp⟩, e.t⟩
/-- a new object of the store -/
theorem Rl.newO {z : MO} (R : Rl K C F H ρ M) (hp : H p = none) (h : OR K C F (upd H p o) (ρ ++ [p]) p z) : Rl K C F (upd H p o) (ρ ++ [p]) (M ++ [z]) := by
  have R2 := R.newH (o := o) hp
  refine ⟨R2.sub, by rw [List.length_append, List.length_append, R.len]; rfl, ?_, fun a ha => ?_, fun n a y e1 e2 => ?_⟩
  · exact List.nodup_append.mpr ⟨R.nd, by simp, fun x hx y hy e => by
      have q : y = p := by simpa using hy
      rw [e, q] at hx
      exact R.fresh hp hx⟩
  · rcases List.mem_append.mp ha with q | q
    · exact R2.has a q
    · have e : a = p := by simpa using q
      rw [e, upd_same]
      exact fun z => nomatch z
  · by_cases hn : n < ρ.length
    · rw [List.getElem?_append_left hn] at e1
      rw [List.getElem?_append_left (by rw [← R.len]; exact hn)] at e2
      exact (R2.ob n a y e1 e2).keep (.refl F) [p] id fun _ q => q
    · have hn2 : n = ρ.length := by
        have := (List.getElem?_eq_some_iff.mp e1).1
        rw [List.length_append] at this
        simp at this
        omega
      subst hn2
      rw [List.getElem?_append_right (Nat.le_refl _), Nat.sub_self] at e1
      rw [R.len, List.getElem?_append_right (Nat.le_refl _), Nat.sub_self] at e2
      cases e1
      cases e2
      exact h
theorem Rl.newM (R : Rl K C F H ρ M) (hp : H p = none) (d : VRs K F ρ vs ws) : Rl K C F (upd H p (.lst vs)) (ρ ++ [p]) (M ++ [.lst ws]) ∧ Ext F H ρ F (upd H p (.lst vs)) (ρ ++ [p]) ∧ VR K F (ρ ++ [p]) (.ref p) (.m M.length) :=
  ⟨R.newO hp ⟨R.freshF hp, vs, upd_same, Paired.mapP d fun _ _ q => VR.mono' (.refl F) [p] q⟩, Ext.newM hp, p, by rw [← R.len, List.getElem?_append_right (Nat.le_refl _), Nat.sub_self]; rfl, rfl⟩
/-- an object of the store is written -/
theorem Rl.write {n : Nat} {z : MO} (R : Rl K C F H ρ M) (h1 : ρ[n]? = some a) (hF : F a = none) (h : OR K C F (upd H a o) ρ a z) : Rl K C F (upd H a o) ρ (M.set n z) ∧ Ext F H ρ F (upd H a o) ρ := by
  have hm : a ∈ ρ := List.mem_of_getElem? h1
  refine ⟨⟨fun b x e => ?_, by rw [List.length_set]; exact R.len, R.nd, fun b hb => ?_, fun k b y e1 e2 => ?_⟩, .refl F, fun b x e hn => ?_, fun _ e _ _ => e, ⟨[], by simp, fun _ z => absurd z (by simp)⟩, fun b hb => ?_⟩
  · have : b ≠ a := fun q => by
      rw [q, hF] at e
      cases e
    rw [upd_ne this]
    exact R.sub _ _ e
  · by_cases hb' : b = a
    · rw [hb', upd_same]
      exact fun z => nomatch z
    · rw [upd_ne hb']
      exact R.has b hb
  · by_cases hk : k = n
    · subst hk
      rw [h1] at e1
      cases e1
      have hlt : k < M.length := by
        rw [← R.len]
        exact (List.getElem?_eq_some_iff.mp h1).1
      rw [List.getElem?_set_self hlt] at e2
      cases e2
      exact h
    · rw [List.getElem?_set_ne (Ne.symm hk)] at e2
      have hba : b ≠ a := fun q => by
        rw [q] at e1
        obtain ⟨l1, g1⟩ := List.getElem?_eq_some_iff.mp e1
        obtain ⟨l2, g2⟩ := List.getElem?_eq_some_iff.mp h1
        exact hk ((List.getElem_inj R.nd).mp (g1.trans g2.symm))
      have q := (R.ob k b y e1 e2).keep (H' := upd H a o) (.refl F) [] id (fun x hx => by
        rw [upd_ne hba]
        exact hx)
      rw [List.append_nil] at q
      exact q
  · rw [upd_ne (fun q : b = a => hn (by rw [q]; exact hm))]
    exact e
  · by_cases hb' : b = a
    · rw [hb', upd_same]
      exact fun z => nomatch z
    · rw [upd_ne hb']
      exact hb
theorem Rl.setL {n : Nat} (R : Rl K C F H ρ M) (h1 : ρ[n]? = some a) (hF : F a = none) (h : VRs K F ρ vs ws) : Rl K C F (upd H a (.lst vs)) ρ (M.set n (.lst ws)) ∧ Ext F H ρ F (upd H a (.lst vs)) ρ :=
  R.write h1 hF ⟨hF, vs, upd_same, h⟩
/-- an object of the store stands still from now on -/
theorem Rl.frz {n : Nat} (R : Rl K C F H ρ M) (h1 : ρ[n]? = some a) (h2 : M[n]? = some (.lst ws)) (hd : dats ws = some xs) : ∃ F', Rl K C F' H ρ (M.set n .dead) ∧ Ext F H ρ F' H ρ ∧ DR F' (.ref a) (.list xs) := by
  obtain ⟨hF, vs, hH, hv⟩ := R.ob n a _ h1 h2
  have hm : a ∈ ρ := List.mem_of_getElem? h1
  have sF : Same F (upd F a (.lst vs)) := same_new hF
  refine ⟨upd F a (.lst vs), ⟨fun b x e => ?_, by rw [List.length_set]; exact R.len, R.nd, R.has, fun k b y e1 e2 => ?_⟩, ⟨sF, fun _ _ e _ => e, fun b e _ hn => ?_, ⟨[], by simp, fun _ z => absurd z (by simp)⟩, fun _ e => e⟩, .lst upd_same (DRs.mono sF _ _ (hv.dats hd))⟩
  · by_cases hb : b = a
    · subst hb
      rw [upd_same] at e
      rw [hH]
      exact e
    · rw [upd_ne hb] at e
      exact R.sub _ _ e
  · by_cases hk : k = n
    · subst hk
      have hlt : k < M.length := by
        rw [← R.len]
        exact (List.getElem?_eq_some_iff.mp h1).1
      rw [List.getElem?_set_self hlt] at e2
      cases e2
      trivial
    · rw [List.getElem?_set_ne (Ne.symm hk)] at e2
      have hba : b ≠ a := fun q => by
        rw [q] at e1
        obtain ⟨l1, g1⟩ := List.getElem?_eq_some_iff.mp e1
        obtain ⟨l2, g2⟩ := List.getElem?_eq_some_iff.mp h1
        exact hk ((List.getElem_inj R.nd).mp (g1.trans g2.symm))
      have q := (R.ob k b y e1 e2).keep (H' := H) sF [] (fun h => by
        rw [upd_ne hba]
        exact h) (fun x hx => hx)
      rw [List.append_nil] at q
      exact q
  · rw [upd_ne (fun q : b = a => hn (by rw [q]; exact hm))]
    exact e
/-- a call that was handed data alone -/
theorem Rl.pure {l : List Addr} {N : MH} (R : Rl K C F H ρ M) (E : Ext F H [] F' H' l) (R' : Rl K C F' H' l N) : Rl K C F' H' ρ M ∧ Ext F H ρ F' H' ρ := by
  refine ⟨⟨R'.sub, R.len, R.nd, fun a ha => E.t a (R.has a ha), fun n a z e1 e2 => ?_⟩, E.f, fun b x e _ => E.h b x e (by simp), fun b e hb _ => E.n b e hb (by simp), ⟨[], by simp, fun _ z => absurd z (by simp)⟩, E.t⟩
  have q := (R.ob n a z e1 e2).keep (H' := H') E.f [] (fun h => E.n a h (R.has a (List.mem_of_getElem? e1)) (by simp)) (fun x hx => E.h a x hx (by simp))
  rw [List.append_nil] at q
  exact q
theorem VR.cut {l : List Addr} {n : Nat} (hn : ρ.length = n) (h : VR K F (ρ ++ l) v w) (r : refOk n w = true) : VR K F ρ v w := by
  cases w with
  | d x => exact h
  | s ns => exact h
  | m k =>
    obtain ⟨a, q, e⟩ := h
    have hk : k < n := of_decide_eq_true r
    rw [List.getElem?_append_left (by omega)] at q
    exact ⟨a, q, e⟩
theorem VRs.cut {l : List Addr} {n : Nat} (hn : ρ.length = n) : ∀ {vs : List V} {ws : List W}, VRs K F (ρ ++ l) vs ws → ws.all (refOk n) = true → VRs K F ρ vs ws
  | _, _, .nil, _ => .nil
  | _, _, .cons q r, h => by
    rw [List.all_cons, Bool.and_eq_true] at h
    exact .cons (VR.cut hn q h.1) (VRs.cut hn r h.2)
/-- what is new is dropped -/
theorem Rl.drop {N : MH} {n : Nat} (hn : ρ.length = n) (E : Ext F H ρ F' H' ρ') (R' : Rl K C F' H' ρ' N) (h : (N.take n).all (objOk n) = true) : Rl K C F' H' ρ (N.take n) ∧ Ext F H ρ F' H' ρ := by
  obtain ⟨l, el, hl⟩ := E.p
  have len' := R'.len
  rw [el, List.length_append] at len'
  refine ⟨⟨R'.sub, by rw [List.length_take]; omega, ?_, fun a ha => R'.has a (by rw [el]; exact List.mem_append_left _ ha), fun k a z e1 e2 => ?_⟩, E.f, E.h, E.n, ⟨[], by simp, fun _ z => absurd z (by simp)⟩, E.t⟩
  · have q := R'.nd
    rw [el] at q
    exact (List.nodup_append.mp q).1
  · have hk : k < n := by
      have := (List.getElem?_eq_some_iff.mp e1).1
      omega
    have hz : objOk n z = true := List.all_eq_true.mp h z (List.mem_of_getElem? e2)
    rw [List.getElem?_take_of_lt hk] at e2
    have q := R'.ob k a z (by rw [el]; exact getElem?_pre e1) e2
    rw [el] at q
    cases z with
    | lst ws =>
      obtain ⟨q1, vs, q2, q3⟩ := q
      exact ⟨q1, vs, q2, VRs.cut hn q3 hz⟩
    | dct t _ => cases t <;> exact q
    | ins ws =>
      obtain ⟨q1, q0, dx, vs, q2, q3⟩ := q
      exact ⟨q1, q0, dx, vs, q2, VRs.cut hn q3 hz⟩
    | exc c => exact q
    | dead => trivial
end

/-! slots -/
structure SR (K : PySem.W.Frag) (F : Hp) (ρ : List Addr) (σ : Sl) (σr : L2.St) : Prop where
  len : σ.length = σr.length
  at' : ∀ (i : Nat) (w : W), σ[i]? = some (some w) → ∃ v, σr[i]? = some (some v) ∧ VR K F ρ v w
section
variable {K : PySem.W.Frag} {F F' H H' : Hp} {ρ ρ' : List Addr} {σ : Sl} {σr : L2.St} {v : V} {w : W}
theorem SR.mono (e : Ext F H ρ F' H' ρ') (S : SR K F ρ σ σr) : SR K F' ρ' σ σr :=
  ⟨S.len, fun i w h => let ⟨v, q, r⟩ := S.at' i w h; ⟨v, q, r.mono e⟩⟩
theorem SR.set (S : SR K F ρ σ σr) (i : Nat) (h : VR K F ρ v w) : SR K F ρ (σ.set i (some w)) (σr.set i (some v)) := by
  refine ⟨by rw [List.length_set, List.length_set]; exact S.len, fun j u e => ?_⟩
  by_cases hj : i = j
  · subst hj
    have hi : i < σ.length := by
      have := (List.getElem?_eq_some_iff.mp e).1
      rw [List.length_set] at this
      exact this
    rw [List.getElem?_set_self hi] at e
    cases e
    exact ⟨v, List.getElem?_set_self (by rw [← S.len]; exact hi), h⟩
  · rw [List.getElem?_set_ne hj] at e ⊢
    exact S.at' j u e
theorem SR.none (S : SR K F ρ σ σr) (i : Nat) : SR K F ρ (σ.set i none) (σr.set i none) := by
  refine ⟨by rw [List.length_set, List.length_set]; exact S.len, fun j u e => ?_⟩
  by_cases hj : i = j
  · subst hj
    have hi : i < σ.length := by
      have := (List.getElem?_eq_some_iff.mp e).1
      rw [List.length_set] at this
      exact this
    rw [List.getElem?_set_self hi] at e
    cases e
  · rw [List.getElem?_set_ne hj] at e ⊢
    exact S.at' j u e
theorem SR.wipe (S : SR K F ρ σ σr) : ∀ vs : List Nat, SR K F ρ (wipeW σ vs) (L2.wipe σr vs)
  | [] => S
  | v :: vs => (SR.wipe S vs).none v
theorem wipe_get {σ : L2.St} : ∀ {vs : List Nat} {i : Nat}, i ∈ vs → i < σ.length → (L2.wipe σ vs)[i]? = some none
  | [], _, h, _ => absurd h (by simp)
  | v :: vs, i, h, hl => by
    unfold L2.wipe
    by_cases e : v = i
    · subst e
      exact List.getElem?_set_self (by rw [wipe_length]; exact hl)
    · rw [List.getElem?_set_ne e]
      exact wipe_get ((List.mem_cons.mp h).resolve_left (Ne.symm e)) hl
theorem wipe_out' {σ : L2.St} {i : Nat} : ∀ {vs : List Nat}, i ∉ vs → (L2.wipe σ vs)[i]? = σ[i]?
  | [], _ => rfl
  | v :: vs, h => by
    unfold L2.wipe
    rw [List.getElem?_set_ne (fun e => h (by simp [e]))]
    exact wipe_out' fun m => h (List.mem_cons_of_mem _ m)
theorem ext_get {α : Type} {σ τ : List α} (h : ∀ i : Nat, σ[i]? = τ[i]?) : σ = τ := List.ext_getElem? h
/-- own names stored within a block are forgotten -/
theorem wipe_set {σ : L2.St} {vs : List Nat} {i : Nat} {x : Option V} (h : i ∈ vs) : L2.wipe (σ.set i x) vs = L2.wipe σ vs := by
  refine ext_get fun (j : Nat) => ?_
  by_cases hj : j ∈ vs
  · by_cases hl : j < σ.length
    · rw [wipe_get hj (by rw [List.length_set]; exact hl), wipe_get hj hl]
    · rw [List.getElem?_eq_none (by rw [wipe_length, List.length_set]; omega), List.getElem?_eq_none (by rw [wipe_length]; omega)]
  · rw [wipe_out' hj, wipe_out' hj, List.getElem?_set_ne (fun e : i = j => hj (by rw [← e]; exact h))]
theorem wipe_wipe {σ : L2.St} (vs : List Nat) : L2.wipe (L2.wipe σ vs) vs = L2.wipe σ vs := by
  refine ext_get fun (j : Nat) => ?_
  by_cases hj : j ∈ vs
  · by_cases hl : j < σ.length
    · rw [wipe_get hj (by rw [wipe_length]; exact hl), wipe_get hj hl]
    · rw [List.getElem?_eq_none (by rw [wipe_length, wipe_length]; omega), List.getElem?_eq_none (by rw [wipe_length]; omega)]
  · rw [wipe_out' hj]
end

/-! what is wanted of an answer -/
def Pst (K : PySem.W.Frag) (C : Nat → Addr) (F H : Hp) (ρ : List Addr) (E : Nat → Hp → Prop) (Q : V → Hp → Prop) : Option Out → Prop
  | none => False
  | some (.val w M') => ∀ F' H' ρ' v, Ext F H ρ F' H' ρ' → Rl K C F' H' ρ' M' → VR K F' ρ' v w → Q v H'
  | some (.exc c M') => ∀ F' H' ρ', Ext F H ρ F' H' ρ' → Rl K C F' H' ρ' M' → E c H'
def PstL (K : PySem.W.Frag) (C : Nat → Addr) (F H : Hp) (ρ : List Addr) (E : Nat → Hp → Prop) (Q : List V → Hp → Prop) : Option OutL → Prop
  | none => False
  | some (.val ws M') => ∀ F' H' ρ' vs, Ext F H ρ F' H' ρ' → Rl K C F' H' ρ' M' → VRs K F' ρ' vs ws → Q vs H'
  | some (.exc c M') => ∀ F' H' ρ', Ext F H ρ F' H' ρ' → Rl K C F' H' ρ' M' → E c H'
section
variable {K : PySem.W.Frag} {C : Nat → Addr} {F F' H H' : Hp} {ρ ρ' : List Addr} {M : MH} {E E' : Nat → Hp → Prop} {Q Q' : V → Hp → Prop} {QL : List V → Hp → Prop}
theorem Pst.mono {o : Option Out} (e : Ext F H ρ F' H' ρ') (h : Pst K C F H ρ E Q o) : Pst K C F' H' ρ' E Q o := by
  cases o with
  | none => exact h
  | some o =>
    cases o with
    | val w M' => exact fun F2 H2 ρ2 v x R r => h F2 H2 ρ2 v (e.trans x) R r
    | exc c M' => exact fun F2 H2 ρ2 x R => h F2 H2 ρ2 (e.trans x) R
/-- an answer, then what is done with it -/
theorem Pst.bind {o : Option Out} {f : W → MH → Option Out} (h : Pst K C F H ρ E Q (obO o f)) :
    Pst K C F H ρ E (fun v H' => ∃ F' ρ' w M', Ext F H ρ F' H' ρ' ∧ Rl K C F' H' ρ' M' ∧ VR K F' ρ' v w ∧ o = some (.val w M') ∧ Pst K C F' H' ρ' E Q (f w M')) o := by
  cases o with
  | none => exact h
  | some o =>
    cases o with
    | val w M' => exact fun F2 H2 ρ2 v x R r => ⟨F2, ρ2, w, M', x, R, r, rfl, Pst.mono x h⟩
    | exc c M' => exact h
theorem PstL.bind {o : Option OutL} {f : List W → MH → Option Out} (h : Pst K C F H ρ E Q (obL o f)) :
    PstL K C F H ρ E (fun vs H' => ∃ F' ρ' ws M', Ext F H ρ F' H' ρ' ∧ Rl K C F' H' ρ' M' ∧ VRs K F' ρ' vs ws ∧ o = some (.val ws M') ∧ Pst K C F' H' ρ' E Q (f ws M')) o := by
  cases o with
  | none => exact h
  | some o =>
    cases o with
    | val w M' => exact fun F2 H2 ρ2 v x R r => ⟨F2, ρ2, w, M', x, R, r, rfl, Pst.mono x h⟩
    | exc c M' => exact h
theorem Pst.here {w : W} {v : V} (h : Pst K C F H ρ E Q (some (.val w M))) (R : Rl K C F H ρ M) (r : VR K F ρ v w) : Q v H := h F H ρ v (.refl F H ρ) R r
theorem Pst.step {w : W} {v : V} (h : Pst K C F H ρ E Q (some (.val w M))) (e : Ext F H ρ F' H' ρ') (R : Rl K C F' H' ρ' M) (r : VR K F' ρ' v w) : Q v H' := h F' H' ρ' v e R r
end
/-- a reading that is implied -/
theorem PE.imp {X : Cx} {e : Expr} {t t' : TE} (h : PE X e t) (i : ∀ σ H Q, t' σ H Q → t σ H Q) : PE X e t' := ⟨fun pins s σ H Q I q => h.run pins s σ H Q I (i _ _ _ q)⟩
theorem PT.imp {X : Cx} {e : Expr} {t t' : TT} (h : PT X e t) (i : ∀ σ H Q, t' σ H Q → t σ H Q) : PT X e t' := ⟨fun pins s σ H Q I q => h.run pins s σ H Q I (i _ _ _ q)⟩
theorem PA.imp {X : Cx} {e : List Expr} {t t' : TA} (h : PA X e t) (i : ∀ σ H Q, t' σ H Q → t σ H Q) : PA X e t' := ⟨fun pos pins s σ H Q I q => h.run pos pins s σ H Q I (i _ _ _ q)⟩
theorem PS.imp {X : Cx} {e : Stmt} {t t' : TS} (h : PS X e t) (i : ∀ D σ H, t' D σ H → t D σ H) : PS X e t' := ⟨fun pins s σ H D I q => h.run pins s σ H D I (i _ _ _ q)⟩
theorem PSs.imp {X : Cx} {e : List Stmt} {t t' : TS} (h : PSs X e t) (i : ∀ D σ H, t' D σ H → t D σ H) : PSs X e t' := ⟨fun pins s σ H D I q => h.run pins s σ H D I (i _ _ _ q)⟩
end Wl

set_option Elab.async false
set_option linter.all false
set_option maxRecDepth 100000
set_option maxHeartbeats 1000000
namespace Wl
open PySem PySem.Spec PyProof.Rows L2

theorem capS {n : Nat} (h : n ≤ cap) : n ≤ sizeLine := by
  rw [sizeLine_eq]
  unfold cap at h
  omega
theorem intsD_eq : ∀ {xs : List PyData} {ns : List Int}, intsD xs = some ns → xs = ns.map .int
  | [], _, e => by
    cases e
    rfl
  | .int i :: r, _, e => by
    unfold intsD at e
    cases z : intsD r with
    | none =>
      rw [z] at e
      cases e
    | some ms =>
      rw [z] at e
      cases e
      rw [intsD_eq z]
      rfl
  | .none :: _, _, e => by cases e
  | .bool _ :: _, _, e => by cases e
  | .str _ :: _, _, e => by cases e
  | .list _ :: _, _, e => by cases e
  | .tuple _ :: _, _, e => by cases e
  | .dict _ :: _, _, e => by cases e
theorem rowsD_eq {tu : Bool} : ∀ {xs : List PyData} {rs : List (List Int)}, rowsD tu xs = some rs → xs = rs.map (rowD tu) ∧ ∀ r ∈ rs, r ≠ []
  | [], _, e => by
    cases e
    exact ⟨rfl, fun r h => absurd h (by simp)⟩
  | .list ys :: r, _, e => by
    unfold rowsD at e
    cases tu with
    | true => cases e
    | false =>
      simp only [Bool.false_eq_true, if_false] at e
      split at e
      · rename_i a p q h1 h2
        cases e
        obtain ⟨i1, i2⟩ := rowsD_eq h2
        refine ⟨by rw [List.map_cons, ← i1, rowD_f, ← intsD_eq h1], fun z hz => ?_⟩
        rcases List.mem_cons.mp hz with e | e
        · rw [e]
          exact fun z => nomatch z
        · exact i2 z e
      · cases e
  | .tuple ys :: r, _, e => by
    unfold rowsD at e
    cases tu with
    | false => cases e
    | true =>
      simp only [if_true] at e
      split at e
      · rename_i a p q h1 h2
        cases e
        obtain ⟨i1, i2⟩ := rowsD_eq h2
        refine ⟨by rw [List.map_cons, ← i1, rowD_t, ← intsD_eq h1], fun z hz => ?_⟩
        rcases List.mem_cons.mp hz with e | e
        · rw [e]
          exact fun z => nomatch z
        · exact i2 z e
      · cases e
  | .none :: _, _, e => by cases e
  | .bool _ :: _, _, e => by cases e
  | .str _ :: _, _, e => by cases e
  | .int _ :: _, _, e => by cases e
  | .dict _ :: _, _, e => by cases e
theorem rowsA_eq {xs : List PyData} {p : Bool × List (List Int)} (h : rowsA xs = some p) : xs = p.2.map (rowD p.1) ∧ ∀ r ∈ p.2, r ≠ [] := by
  unfold rowsA at h
  split at h
  · cases h
    exact rowsD_eq (by assumption)
  · cases e : rowsD true xs with
    | none =>
      rw [e] at h
      cases h
    | some r =>
      rw [e] at h
      cases h
      exact rowsD_eq e
theorem p64_eq : p64 = 2 ^ 64 := by decide
def opM : BO → Operator → Bool
  | .add, .Add => true
  | .sub, .Sub => true
  | .mul, .Mult => true
  | .mod, .Mod => true
  | .fdv, .FloorDiv => true
  | .pow, .Pow => true
  | _, _ => false
section
variable {K : PySem.W.Frag} {C : Nat → Addr} {F F' H H' : Hp} {ρ ρ' : List Addr} {M : MH} {E : Nat → Hp → Prop} {Q : V → Hp → Prop} {v w : V} {x y z : PyData}
theorem out_int {i : Int} (R : Rl K C F H ρ M) (h : Pst K C F H ρ E Q (some (.val (.d (.int i)) M))) : Q (.int i) H := h.here R (.int i)
theorem out_bl {i : Bool} (R : Rl K C F H ρ M) (h : Pst K C F H ρ E Q (some (.val (.d (.bool i)) M))) : Q (.bl i) H := h.here R (.bl i)
theorem out_str {i : Str} (R : Rl K C F H ρ M) (h : Pst K C F H ρ E Q (some (.val (.d (.str i)) M))) : Q (.str i) H := h.here R (.str i)
theorem out_same (R : Rl K C F H ρ M) (d : DR F v x) (h : Pst K C F H ρ E Q (some (.val (.d x) M))) : Q v H := h.here R d
theorem out_lst {vs : List V} {xs : List PyData} (R : Rl K C F H ρ M) (d : DRs F vs xs) (h : Pst K C F H ρ E Q (some (.val (.d (.list xs)) M))) : ∀ p, H p = none → Q (.ref p) (upd H p (.lst vs)) := fun p hp => by
  obtain ⟨R', e, r⟩ := R.newL hp d
  exact h.step e R' r
theorem out_tup {vs : List V} {xs : List PyData} (R : Rl K C F H ρ M) (d : DRs F vs xs) (h : Pst K C F H ρ E Q (some (.val (.d (.tuple xs)) M))) : ∀ p, H p = none → Q (.ref p) (upd H p (.tup vs)) := fun p hp => by
  obtain ⟨R', e, r⟩ := R.newT hp d
  exact h.step e R' r
end
theorem bin_r {X : Cx} {C : Nat → Addr} (op : BO) (oo : Operator) (h : opM op oo = true) : ∃ r : R2, OpR X (binaryOp oo) r ∧
    ∀ {F H : Hp} {ρ : List Addr} {M : MH} {E : Nat → Hp → Prop} {Q : V → Hp → Prop} {v w : V} {x y z : PyData}, Rl X.K C F H ρ M → DR F v x → DR F w y → binD op x y = some z → Pst X.K C F H ρ E Q (some (.val (.d z) M)) → r v w H Q := by
  cases op <;> cases oo <;> first | (exact absurd h (by decide)) | skip
  · refine ⟨_, op_add.or (op_cat.or (op_catA.or op_add_str)), ?_⟩
    intro F H ρ M E Q v w x y z R dx dy e q
    cases dx <;> cases dy <;> simp only [binD] at e <;> first | (cases e; done) | skip
    · cases e
      exact .inl ⟨_, _, rfl, rfl, out_int R q⟩
    · split at e
      · cases e
        exact .inr (.inr (.inr ⟨_, _, rfl, rfl, capS (by assumption), out_str R q⟩))
      · cases e
    · rename_i a xs ds h1 h2 b ys es h3 h4
      split at e
      · cases e
        exact .inr (.inl ⟨_, _, _, _, rfl, rfl, R.sub _ _ h1, R.sub _ _ h3, capS (by rw [h2.length, h4.length]; assumption), out_lst R (h2.append h4) q⟩)
      · cases e
    · rename_i a xs ds h1 h2 b ys es h3 h4
      split at e
      · cases e
        refine .inr (.inr (.inl ⟨_, _, _, _, rfl, rfl, .of (R.sub _ _ h1), .of (R.sub _ _ h3), capS (by rw [h2.length, h4.length]; assumption), fun z => ?_, fun _ z => ?_, fun _ _ => out_tup R (h2.append h4) q⟩))
        · subst z
          cases h2
          exact out_same R (.tup h3 h4) q
        · subst z
          cases h4
          rw [List.append_nil] at q
          exact out_same R (.tup h1 h2) q
      · cases e
  · refine ⟨_, op_sub, ?_⟩
    intro F H ρ M E Q v w x y z R dx dy e q
    cases dx <;> cases dy <;> simp only [binD] at e <;> first | (cases e; done) | skip
    cases e
    exact ⟨_, _, rfl, rfl, out_int R q⟩
  · refine ⟨_, op_mul.or (op_rep.or op_strmul), ?_⟩
    intro F H ρ M E Q v w x y z R dx dy e q
    cases dx <;> cases dy <;> simp only [binD] at e <;> first | (cases e; done) | skip
    · split at e
      · rename_i hc
        cases e
        rw [p64_eq] at hc
        exact .inl ⟨_, _, rfl, rfl, hc, out_int R q⟩
      · cases e
    · rename_i z n
      split at e
      · rename_i hc
        cases e
        exact .inr (.inr ⟨_, _, rfl, rfl, hc.1, hc.2.1, hc.2.2.1, hc.2.2.2, out_str R q⟩)
      · cases e
    · rename_i a xs ds h1 h2 k
      split at e
      · rename_i hc
        cases e
        obtain ⟨c1, c2, c3⟩ := hc
        exact .inr (.inl ⟨_, _, _, rfl, rfl, R.sub _ _ h1, by omega, by omega, capS (by rw [h2.length]; exact c3), out_lst R (h2.rep _) q⟩)
      · cases e
  · refine ⟨_, op_modN, ?_⟩
    intro F H ρ M E Q v w x y z R dx dy e q
    cases dx <;> cases dy <;> simp only [binD] at e <;> first | (cases e; done) | skip
    split at e
    · cases e
      exact ⟨_, _, rfl, rfl, by assumption, out_int R q⟩
    · cases e
  · refine ⟨_, op_fdivN, ?_⟩
    intro F H ρ M E Q v w x y z R dx dy e q
    cases dx <;> cases dy <;> simp only [binD] at e <;> first | (cases e; done) | skip
    split at e
    · cases e
      exact ⟨_, _, rfl, rfl, by assumption, out_int R q⟩
    · cases e
  · refine ⟨_, op_pow, ?_⟩
    intro F H ρ M E Q v w x y z R dx dy e q
    cases dx <;> cases dy <;> simp only [binD] at e <;> first | (cases e; done) | skip
    split at e
    · rename_i hc
      cases e
      exact ⟨_, _, rfl, rfl, ⟨hc.1, hc.2.1, Nat.lt_of_lt_of_le hc.2.2 (by decide)⟩, out_int R q⟩
    · cases e

theorem VR.view {K : PySem.W.Frag} {C : Nat → Addr} {F H : Hp} {ρ : List Addr} {M : MH} {v : V} {w : W} {x : PyData} (R : Rl K C F H ρ M) (h : VR K F ρ v w) (e : view M w = some x) : Dp K H v x := by
  cases w with
  | d y =>
    cases e
    exact DR.dp R.sub _ _ h
  | m n =>
    obtain ⟨a, h1, rfl⟩ := h
    unfold Wl.view at e
    simp only at e
    split at e
    · rename_i ws hM
      obtain ⟨hF, vs, hH, hv⟩ := R.ob n a _ h1 hM
      cases z : dats ws with
      | none =>
        rw [z] at e
        cases e
      | some xs =>
        rw [z] at e
        cases e
        exact .lst (.of hH) (DRs.dp R.sub _ _ (hv.dats z))
    · cases e
  | s ns =>
    cases e
    obtain ⟨a, rfl, q⟩ := h
    exact .lst (R.sub.seq q) (DpAll.of_ints ns)
def cmpM : CO → CmpOp → Bool
  | .lt, .Lt => true
  | .le, .LtE => true
  | .gt, .Gt => true
  | .ge, .GtE => true
  | .eq, .Eq => true
  | .ne, .NotEq => true
  | .is, .Is => true
  | .isn, .IsNot => true
  | .inn, .In => true
  | .nin, .NotIn => true
  | _, _ => false
theorem cmpW_view {op : CO} {v w : W} {M : MH} {b : Bool} (h : cmpW op v w M = some b) (h1 : op ≠ .is) (h2 : op ≠ .isn) : ∃ x y, view M v = some x ∧ view M w = some y ∧ cmpD op x y = some b := by
  unfold cmpW at h
  split at h
  · exact absurd rfl h1
  · exact absurd rfl h2
  · split at h
    · exact ⟨_, _, by assumption, by assumption, h⟩
    · cases h
theorem isNone_of {K : PySem.W.Frag} {H : Hp} {v : V} {x : PyData} (h : Dp K H v x) : decide (v = .non) = isNone x := by
  cases h <;> first | rfl | exact decide_eq_false (fun z => nomatch z)
theorem one_sign {c : Str} {k : Nat} (h : c.cps.toList = [k]) : c = ⟨#[k]⟩ := by
  cases c with
  | mk a =>
    cases a with
    | mk l =>
      have e : l = [k] := h
      subst e
      rfl
def rInT (K : PySem.W.Frag) : R2 := fun x y H Q => ∃ d ds, Dp K H x d ∧ Dp K H y (.tuple ds) ∧ SeqAt.shaped d = true ∧ SeqAt.shaped (.tuple ds) = true ∧ Q (.bl (ds.any fun z => PyData.eqv z d)) H
def rNotInT (K : PySem.W.Frag) : R2 := fun x y H Q => ∃ d ds, Dp K H x d ∧ Dp K H y (.tuple ds) ∧ SeqAt.shaped d = true ∧ SeqAt.shaped (.tuple ds) = true ∧ Q (.bl (!ds.any fun z => PyData.eqv z d)) H
theorem op_inT {X : Cx} (hu : X.A.units + 65 < cLine) : OpR X (compareOp .In) (rInT X.K) := by
  intro pins s σ H x y v u Q I rx ry h
  obtain ⟨d, ds, hd, he, sd, se, q⟩ := h
  obtain ⟨as, r1⟩ := Dp.reads I d x v hd rx
  obtain ⟨bs, r2⟩ := Dp.reads I (.tuple ds) y u he ry
  exact SeqAt.in_tuple_reads r2 r1 (SeqAt.canLay_of_shaped se) (SeqAt.canLay_of_shaped sd) (room_in_shaped sd hu) ⟨.bl _, H, I, rfl, q⟩
theorem op_notInT {X : Cx} (hu : X.A.units + 65 < cLine) : OpR X (compareOp .NotIn) (rNotInT X.K) := by
  intro pins s σ H x y v u Q I rx ry h
  obtain ⟨d, ds, hd, he, sd, se, q⟩ := h
  obtain ⟨as, r1⟩ := Dp.reads I d x v hd rx
  obtain ⟨bs, r2⟩ := Dp.reads I (.tuple ds) y u he ry
  exact SeqAt.notIn_tuple_reads r2 r1 (SeqAt.canLay_of_shaped se) (SeqAt.canLay_of_shaped sd) (room_in_shaped sd hu) ⟨.bl _, H, I, rfl, q⟩
theorem op_isOff {X : Cx} : OpR X (compareOp .Is) (fun x y H Q => ∃ b, y = .bl b ∧ (x = .non ∨ ∃ i, x = .int i) ∧ Q (.bl false) H) := by
  intro pins s σ H x y v u Q I rx ry h
  obtain ⟨b, rfl, hx, q⟩ := h
  cases (show u = Value.bool b from ry)
  rcases hx with rfl | ⟨i, rfl⟩
  · cases (show v = Value.none from rx)
    exact wpAny_is_other rfl (fun z => nomatch z) (fin_bl I q rfl)
  · obtain ⟨t, rfl⟩ := (show ∃ t, v = Value.int i t from rx)
    exact wpAny_is_other rfl (fun z => nomatch z) (fin_bl I q rfl)
theorem cmp_r {X : Cx} {C : Nat → Addr} (hu : X.A.units + 65 < cLine) (op : CO) (oo : CmpOp) (h : cmpM op oo = true) : ∃ r : R2, OpR X (compareOp oo) r ∧
    ∀ {F H : Hp} {ρ : List Addr} {M : MH} {Q : V → Hp → Prop} {v w : V} {x y : W} {b : Bool}, Rl X.K C F H ρ M → VR X.K F ρ v x → VR X.K F ρ w y → cmpW op x y M = some b → Q (.bl b) H → r v w H Q := by
  cases op <;> cases oo <;> first | (exact absurd h (by decide)) | skip
  · refine ⟨_, op_lt.or (op_ltR hu), ?_⟩
    intro F H ρ M Q v w x y b R dx dy e q
    obtain ⟨x', y', e1, e2, e3⟩ := cmpW_view e (by decide) (by decide)
    have hx := dx.view R e1
    have hy := dy.view R e2
    cases hx <;> cases hy <;> simp only [cmpD] at e3 <;> first | (cases e3; done) | skip
    · cases e3
      exact .inl ⟨_, _, rfl, rfl, q⟩
    · rename_i a xs ds s1 s2 a' xs' ds' s1' s2'
      split at e3
      · rename_i p r h1 h2
        cases e3
        refine .inr ⟨false, p, r, ?_, ?_, q⟩
        · rw [rowD_f, ← intsD_eq h1]
          exact .lst s1 s2
        · rw [rowD_f, ← intsD_eq h2]
          exact .lst s1' s2'
      · cases e3
  · refine ⟨_, op_le, ?_⟩
    intro F H ρ M Q v w x y b R dx dy e q
    obtain ⟨x', y', e1, e2, e3⟩ := cmpW_view e (by decide) (by decide)
    have hx := dx.view R e1
    have hy := dy.view R e2
    cases hx <;> cases hy <;> simp only [cmpD] at e3 <;> first | (cases e3; done) | skip
    cases e3
    exact ⟨_, _, rfl, rfl, q⟩
  · refine ⟨_, op_gt, ?_⟩
    intro F H ρ M Q v w x y b R dx dy e q
    obtain ⟨x', y', e1, e2, e3⟩ := cmpW_view e (by decide) (by decide)
    have hx := dx.view R e1
    have hy := dy.view R e2
    cases hx <;> cases hy <;> simp only [cmpD] at e3 <;> first | (cases e3; done) | skip
    cases e3
    exact ⟨_, _, rfl, rfl, q⟩
  · refine ⟨_, op_ge, ?_⟩
    intro F H ρ M Q v w x y b R dx dy e q
    obtain ⟨x', y', e1, e2, e3⟩ := cmpW_view e (by decide) (by decide)
    have hx := dx.view R e1
    have hy := dy.view R e2
    cases hx <;> cases hy <;> simp only [cmpD] at e3 <;> first | (cases e3; done) | skip
    cases e3
    exact ⟨_, _, rfl, rfl, q⟩
  · refine ⟨_, op_eqD (by omega), ?_⟩
    intro F H ρ M Q v w x y b R dx dy e q
    obtain ⟨x', y', e1, e2, e3⟩ := cmpW_view e (by decide) (by decide)
    simp only [cmpD] at e3
    split at e3
    · rename_i hc
      cases e3
      rw [Bool.and_eq_true] at hc
      exact ⟨_, _, dx.view R e1, dy.view R e2, hc.1, hc.2, q⟩
    · cases e3
  · refine ⟨_, op_neD (by omega), ?_⟩
    intro F H ρ M Q v w x y b R dx dy e q
    obtain ⟨x', y', e1, e2, e3⟩ := cmpW_view e (by decide) (by decide)
    simp only [cmpD] at e3
    split at e3
    · rename_i hc
      cases e3
      rw [Bool.and_eq_true] at hc
      exact ⟨_, _, dx.view R e1, dy.view R e2, hc.1, hc.2, q⟩
    · cases e3
  · refine ⟨_, (op_isN.or op_isBl).or op_isOff, ?_⟩
    intro F H ρ M Q v w x y b R dx dy e q
    unfold cmpW at e
    split at e
    · cases e
      obtain ⟨a, _, rfl⟩ := dx
      cases dy
      exact .inl (.inl ⟨rfl, q⟩)
    · exact absurd (show CO.is = CO.isn by assumption) (by decide)
    · split at e
      · rename_i x' y' e1 e2
        have hx := dx.view R e1
        have hy := dy.view R e2
        cases hy with
        | non =>
          have e3 : some (isNone x') = some b := by
            rw [← e]
            cases hx <;> rfl
          cases e3
          refine .inl (.inl ⟨rfl, ?_⟩)
          rw [isNone_of hx]
          exact q
        | bl k =>
          cases hx <;> simp only [cmpD] at e <;> first | (cases e; done) | skip
          · cases e
            exact .inr ⟨_, rfl, .inl rfl, q⟩
          · cases e
            exact .inl (.inr ⟨_, _, rfl, rfl, q⟩)
          · cases e
            exact .inr ⟨_, rfl, .inr ⟨_, rfl⟩, q⟩
        | _ => cases hx <;> simp only [cmpD] at e <;> cases e
      · cases e
  · refine ⟨_, op_notN.or op_notBl, ?_⟩
    intro F H ρ M Q v w x y b R dx dy e q
    unfold cmpW at e
    split at e
    · exact absurd (show CO.isn = CO.is by assumption) (by decide)
    · cases e
      obtain ⟨a, _, rfl⟩ := dx
      cases dy
      exact .inl ⟨rfl, q⟩
    · split at e
      · rename_i x' y' e1 e2
        have hx := dx.view R e1
        have hy := dy.view R e2
        cases hy with
        | non =>
          have e3 : some (!isNone x') = some b := by
            rw [← e]
            cases hx <;> rfl
          cases e3
          refine .inl ⟨rfl, ?_⟩
          rw [isNone_of hx]
          exact q
        | bl k =>
          cases hx <;> simp only [cmpD] at e <;> first | (cases e; done) | skip
          cases e
          exact .inr ⟨_, _, rfl, rfl, q⟩
        | _ => cases hx <;> simp only [cmpD] at e <;> cases e
      · cases e
  · refine ⟨_, ((op_inD hu).or (op_inT hu)).or op_in_sign, ?_⟩
    intro F H ρ M Q v w x y b R dx dy e q
    obtain ⟨x', y', e1, e2, e3⟩ := cmpW_view e (by decide) (by decide)
    have hx := dx.view R e1
    have hy := dy.view R e2
    cases hy with
    | @lst _ _ ds s1 s2 =>
      have e4 : (if SeqAt.shaped x' && SeqAt.shaped (.list ds) then some (List.any ds fun y => PyData.eqv y x') else none) = some b := by
        rw [← e3]
        cases hx <;> rfl
      split at e4
      · rename_i hc
        cases e4
        rw [Bool.and_eq_true] at hc
        exact .inl (.inl ⟨_, _, hx, .lst s1 s2, hc.1, hc.2, q⟩)
      · cases e4
    | @tup _ _ ds s1 s2 =>
      have e4 : (if SeqAt.shaped x' && SeqAt.shaped (.tuple ds) then some (List.any ds fun y => PyData.eqv y x') else none) = some b := by
        rw [← e3]
        cases hx <;> rfl
      split at e4
      · rename_i hc
        cases e4
        rw [Bool.and_eq_true] at hc
        exact .inl (.inr ⟨_, _, hx, .tup s1 s2, hc.1, hc.2, q⟩)
      · cases e4
    | str z =>
      cases hx <;> simp only [cmpD] at e3 <;> first | (cases e3; done) | skip
      split at e3
      · rename_i k hk
        cases e3
        exact .inr ⟨k, z, by rw [one_sign hk], rfl, q⟩
      · cases e3
    | _ => cases hx <;> simp only [cmpD] at e3 <;> cases e3
  · refine ⟨_, ((op_notInD hu).or (op_notInT hu)).or op_notIn_sign, ?_⟩
    intro F H ρ M Q v w x y b R dx dy e q
    obtain ⟨x', y', e1, e2, e3⟩ := cmpW_view e (by decide) (by decide)
    have hx := dx.view R e1
    have hy := dy.view R e2
    cases hy with
    | @lst _ _ ds s1 s2 =>
      have e4 : (if SeqAt.shaped x' && SeqAt.shaped (.list ds) then some (!List.any ds fun y => PyData.eqv y x') else none) = some b := by
        rw [← e3]
        cases hx <;> rfl
      split at e4
      · rename_i hc
        cases e4
        rw [Bool.and_eq_true] at hc
        exact .inl (.inl ⟨_, _, hx, .lst s1 s2, hc.1, hc.2, q⟩)
      · cases e4
    | @tup _ _ ds s1 s2 =>
      have e4 : (if SeqAt.shaped x' && SeqAt.shaped (.tuple ds) then some (!List.any ds fun y => PyData.eqv y x') else none) = some b := by
        rw [← e3]
        cases hx <;> rfl
      split at e4
      · rename_i hc
        cases e4
        rw [Bool.and_eq_true] at hc
        exact .inl (.inr ⟨_, _, hx, .tup s1 s2, hc.1, hc.2, q⟩)
      · cases e4
    | str z =>
      cases hx <;> simp only [cmpD] at e3 <;> first | (cases e3; done) | skip
      split at e3
      · rename_i k hk
        cases e3
        exact .inr ⟨k, z, by rw [one_sign hk], rfl, q⟩
      · cases e3
    | _ => cases hx <;> simp only [cmpD] at e3 <;> cases e3
end Wl

set_option Elab.async false
set_option linter.all false
set_option maxRecDepth 100000
set_option maxHeartbeats 1000000
namespace Wl
open PySem PySem.Spec PyProof.Rows L2

section
variable {K : PySem.W.Frag} {C : Nat → Addr} {F F' H H' : Hp} {ρ ρ' : List Addr} {M : MH} {E : Nat → Hp → Prop} {Q : V → Hp → Prop} {v w : V} {x y z : PyData} {ws : List W} {vs : List V}
theorem VR.viewL {w : W} {xs : List PyData} (R : Rl K C F H ρ M) (h : VR K F ρ v w) (e : Wl.view M w = some (.list xs)) : ∃ a us, v = .ref a ∧ SqL K H a us ∧ DRs F us xs := by
  cases w with
  | d y =>
    cases e
    cases h with
    | lst q r => exact ⟨_, _, rfl, .of (R.sub _ _ q), r⟩
  | m n =>
    obtain ⟨a, h1, rfl⟩ := h
    unfold Wl.view at e
    simp only at e
    split at e
    · rename_i ws hM
      obtain ⟨hF, vs, hH, hv⟩ := R.ob n a _ h1 hM
      cases z : dats ws with
      | none =>
        rw [z] at e
        cases e
      | some xs =>
        rw [z] at e
        cases e
        exact ⟨a, vs, rfl, .of hH, hv.dats z⟩
    · cases e
  | s ns =>
    cases e
    obtain ⟨a, rfl, q⟩ := h
    exact ⟨a, _, rfl, R.sub.seq q, DRs.of_ints ns⟩
theorem view_d {w : W} {x : PyData} (e : Wl.view M w = some x) (hx : ∀ xs, x ≠ .list xs) : w = .d x := by
  cases w with
  | d y =>
    cases e
    rfl
  | m n =>
    unfold Wl.view at e
    simp only at e
    split at e
    · rename_i ws hM
      cases z : dats ws with
      | none =>
        rw [z] at e
        cases e
      | some xs =>
        rw [z] at e
        cases e
        exact absurd rfl (hx xs)
    · cases e
  | s ns =>
    cases e
    exact absurd rfl (hx _)
theorem VR.viewT {w : W} {xs : List PyData} (R : Rl K C F H ρ M) (h : VR K F ρ v w) (e : Wl.view M w = some (.tuple xs)) : ∃ a us, v = .ref a ∧ SqT K H a us ∧ DRs F us xs ∧ DR F v (.tuple xs) := by
  have := view_d e fun _ z => nomatch z
  subst this
  have h' : DR F v (.tuple xs) := h
  cases h' with
  | tup q r => exact ⟨_, _, rfl, .of (R.sub _ _ q), r, .tup q r⟩
theorem VR.viewS {w : W} {s : Str} (R : Rl K C F H ρ M) (h : VR K F ρ v w) (e : Wl.view M w = some (.str s)) : v = .str s := by
  have := h.view R e
  cases this
  rfl
theorem VR.viewI {w : W} {s : Int} (R : Rl K C F H ρ M) (h : VR K F ρ v w) (e : Wl.view M w = some (.int s)) : v = .int s := by
  have := h.view R e
  cases this
  rfl
theorem out_newL {mu : Bool} {us : List V} {zs : List PyData} (R : Rl K C F H ρ M) (d : DRs F us zs) (h : Pst K C F H ρ E Q (some (newL mu zs M))) : ∀ p, H p = none → Q (.ref p) (upd H p (.lst us)) := fun p hp => by
  cases mu with
  | false => exact out_lst R d h p hp
  | true =>
    obtain ⟨R', e, r⟩ := R.newM hp (VRs.of_data (ρ := ρ) (K := K) d)
    exact Pst.step (w := .m M.length) h e R' r
end
theorem atI_of {α β : Type} {xs : List α} {ys : List β} {P : α → β → Prop} (hl : xs.length = ys.length) (hg : ∀ (i : Nat) (y : β), ys[i]? = some y → ∃ x, xs[i]? = some x ∧ P x y) {i : Int} {y : β} (h : atI ys i = some y) : ∃ x, atI xs i = some x ∧ P x y := by
  unfold atI at h ⊢
  rw [hl]
  cases e : ixN ys.length i with
  | none =>
    rw [e] at h
    cases h
  | some j =>
    rw [e] at h
    obtain ⟨x, h1, h2⟩ := hg j y h
    exact ⟨x, h1, h2⟩
/-- a[i] -/
theorem sub_r {X : Cx} {C : Nat → Addr} : ∃ r : R2, IxR X r ∧
    ∀ {F H : Hp} {ρ : List Addr} {M : MH} {E : Nat → Hp → Prop} {Q : V → Hp → Prop} {v w : V} {x : W} {k : Int}, Rl X.K C F H ρ M → VR X.K F ρ v x → w = .int k → Pst X.K C F H ρ E Q (match x with
      | .m n => match M[n]? with
        | some (.lst ws) => match atI ws k with
          | some z => some (.val z M)
          | none => none
        | _ => none
      | .d x => ret (subD x k) M
      | .s _ => none) → r v w H Q := by
  refine ⟨_, ix_seq, ?_⟩
  intro F H ρ M E Q v w x k R dx ew q
  subst ew
  cases x with
  | s ns => exact q.elim
  | m n =>
    obtain ⟨a, h1, rfl⟩ := dx
    simp only at q
    split at q
    · rename_i ws hM
      obtain ⟨hF, vs, hH, hv⟩ := R.ob n a _ h1 hM
      split at q
      · rename_i z hz
        obtain ⟨u, hu, ru⟩ := atI_of (P := VR X.K F ρ) hv.length (fun i y e => VRs.get hv e) hz
        exact .inl ⟨a, vs, k, u, rfl, rfl, .of hH, hu, q.here R ru⟩
      · exact q.elim
    · exact q.elim
  | d x =>
    have dx : DR F v x := dx
    cases dx with
    | @lst a vs ds h1 h2 =>
      simp only [subD] at q
      cases e : atI ds k with
      | none =>
        rw [e] at q
        exact q.elim
      | some z =>
        rw [e] at q
        obtain ⟨u, hu, ru⟩ := atI_of (P := DR F) h2.length (fun i y e => DRs.get h2 e) e
        exact .inl ⟨a, vs, k, u, rfl, rfl, .of (R.sub _ _ h1), hu, out_same R ru q⟩
    | @tup a vs ds h1 h2 =>
      simp only [subD] at q
      cases e : atI ds k with
      | none =>
        rw [e] at q
        exact q.elim
      | some z =>
        rw [e] at q
        obtain ⟨u, hu, ru⟩ := atI_of (P := DR F) h2.length (fun i y e => DRs.get h2 e) e
        exact .inr (.inl ⟨a, vs, k, u, rfl, rfl, .of (R.sub _ _ h1), hu, out_same R ru q⟩)
    | str z =>
      simp only [subD] at q
      split at q
      · rename_i hc
        cases e : atI z.cps.toList k with
        | none =>
          rw [e] at q
          exact q.elim
        | some c =>
          rw [e] at q
          exact .inr (.inr ⟨z, k, c, rfl, rfl, capS hc, e, out_str R q⟩)
      · exact q.elim
    | _ => exact q.elim
/-- a[i:j] -/
theorem sli_r {X : Cx} {C : Nat → Addr} : ∃ r : V → Option Int → Option Int → Hp → VK → Prop, SlR X r ∧
    ∀ {F H : Hp} {ρ : List Addr} {M : MH} {E : Nat → Hp → Prop} {Q : V → Hp → Prop} {v : V} {w : W} {x : PyData} {lo hi : Option Int}, Rl X.K C F H ρ M → VR X.K F ρ v w → view M w = some x → Pst X.K C F H ρ E Q (ret (sliD x lo hi) M) → r v lo hi H Q := by
  refine ⟨_, sl_list.or (sl_tupA.or sl_str), ?_⟩
  intro F H ρ M E Q v w x lo hi R dx e q
  cases x with
  | list xs =>
    obtain ⟨a, us, rfl, s, d⟩ := dx.viewL R e
    exact .inl ⟨a, us, rfl, s, out_lst R (d.cut lo hi) q⟩
  | tuple xs =>
    obtain ⟨a, us, rfl, s, d, dd⟩ := dx.viewT R e
    refine .inr (.inl ⟨a, us, rfl, s, fun hw => ?_, fun _ => out_tup R (d.cut lo hi) q⟩)
    have ec : cutD xs lo hi = xs := by
      unfold cutD
      rw [← d.length, hw.1, hw.2, List.drop_zero, Nat.sub_zero, d.length, List.take_length]
    have q' : Pst X.K C F H ρ E Q (some (.val (.d (.tuple xs)) M)) := by
      have q2 : Pst X.K C F H ρ E Q (some (.val (.d (.tuple (cutD xs lo hi))) M)) := q
      rw [ec] at q2
      exact q2
    exact out_same R dd q'
  | str z =>
    have := dx.viewS R e
    subst this
    simp only [sliD] at q
    split at q
    · exact .inr (.inr ⟨z, rfl, capS (by assumption), out_str R q⟩)
    · exact q.elim
  | _ => exact q.elim

theorem maxL_spec : ∀ (r : List Int) (a : Int), maxL a r ∈ a :: r ∧ ∀ y ∈ a :: r, y ≤ maxL a r
  | [], a => ⟨List.mem_cons_self, fun y h => by
    have : y = a := by simpa using h
    rw [this]
    exact Int.le_refl _⟩
  | b :: r, a => by
    obtain ⟨h1, h2⟩ := maxL_spec r (if b > a then b else a)
    refine ⟨?_, fun y hy => ?_⟩
    · show maxL (if b > a then b else a) r ∈ a :: b :: r
      rcases List.mem_cons.mp h1 with e | e
      · rw [e]
        split
        · exact List.mem_cons_of_mem _ List.mem_cons_self
        · exact List.mem_cons_self
      · exact List.mem_cons_of_mem _ (List.mem_cons_of_mem _ e)
    · show y ≤ maxL (if b > a then b else a) r
      have h0 := h2 _ List.mem_cons_self
      rcases List.mem_cons.mp hy with e | e
      · subst e
        refine Int.le_trans ?_ h0
        split <;> omega
      · rcases List.mem_cons.mp e with e | e
        · subst e
          refine Int.le_trans ?_ h0
          split <;> omega
        · exact h2 y (List.mem_cons_of_mem _ e)
theorem minL_spec : ∀ (r : List Int) (a : Int), minL a r ∈ a :: r ∧ ∀ y ∈ a :: r, minL a r ≤ y
  | [], a => ⟨List.mem_cons_self, fun y h => by
    have : y = a := by simpa using h
    rw [this]
    exact Int.le_refl _⟩
  | b :: r, a => by
    obtain ⟨h1, h2⟩ := minL_spec r (if b < a then b else a)
    refine ⟨?_, fun y hy => ?_⟩
    · show minL (if b < a then b else a) r ∈ a :: b :: r
      rcases List.mem_cons.mp h1 with e | e
      · rw [e]
        split
        · exact List.mem_cons_of_mem _ List.mem_cons_self
        · exact List.mem_cons_self
      · exact List.mem_cons_of_mem _ (List.mem_cons_of_mem _ e)
    · show minL (if b < a then b else a) r ≤ y
      have h0 := h2 _ List.mem_cons_self
      rcases List.mem_cons.mp hy with e | e
      · subst e
        refine Int.le_trans h0 ?_
        split <;> omega
      · rcases List.mem_cons.mp e with e | e
        · subst e
          refine Int.le_trans h0 ?_
          split <;> omega
        · exact h2 y (List.mem_cons_of_mem _ e)
theorem insI_perm (x : Int) : ∀ l, (insI x l).Perm (x :: l)
  | [] => .refl _
  | y :: r => by
    unfold insI
    split
    · exact .refl _
    · exact ((insI_perm x r).cons y).trans (.swap x y r)
theorem sortI_perm : ∀ l, (sortI l).Perm l
  | [] => .refl _
  | x :: r => (insI_perm x (sortI r)).trans ((sortI_perm r).cons x)
theorem insI_sorted (x : Int) : ∀ l, l.Pairwise (· ≤ ·) → (insI x l).Pairwise (· ≤ ·)
  | [], _ => by simp [insI]
  | y :: r, h => by
    unfold insI
    rw [List.pairwise_cons] at h
    split
    · rename_i hc
      refine List.pairwise_cons.mpr ⟨fun z hz => ?_, List.pairwise_cons.mpr h⟩
      rcases List.mem_cons.mp hz with e | e
      · rw [e]
        exact hc
      · exact Int.le_trans hc (h.1 z e)
    · rename_i hc
      refine List.pairwise_cons.mpr ⟨fun z hz => ?_, insI_sorted x r h.2⟩
      rcases List.mem_cons.mp ((insI_perm x r).mem_iff.mp hz) with e | e
      · rw [e]
        omega
      · exact h.1 z e
theorem sortI_sorted : ∀ l, (sortI l).Pairwise (· ≤ ·)
  | [] => .nil
  | x :: r => insI_sorted x _ (sortI_sorted r)
theorem sorted_one {a b : List Int} (h : a.Perm b) (ha : a.Pairwise (· ≤ ·)) (hb : b.Pairwise (· ≤ ·)) : a = b := h.eq_of_pairwise (fun x y _ _ h1 h2 => Int.le_antisymm h1 h2) ha hb

def bltF : BF → Value
  | .len => .builtin "len"
  | .max1 => .builtin "max"
  | .min1 => .builtin "min"
  | .max2 => .builtin "max"
  | .min2 => .builtin "min"
  | .sum => .builtin "sum"
  | .all => .builtin "all"
  | .any => .builtin "any"
  | .sorted => .builtin "sorted"
  | .list => .type "list"
  | .tuple => .type "tuple"
  | .str => .type "str"
  | .int => .type "int"
section
variable {K : PySem.W.Frag} {C : Nat → Addr} {F H : Hp} {ρ : List Addr} {M : MH} {vs : List V} {ws : List W} {x y : PyData}
theorem views1 (h : views M ws = some [x]) : ∃ w, ws = [w] ∧ view M w = some x := by
  cases ws with
  | nil => cases h
  | cons w r =>
    unfold views at h
    split at h
    · rename_i x' xs' h1 h2
      cases h
      cases r with
      | nil => exact ⟨w, rfl, h1⟩
      | cons w2 r2 =>
        unfold views at h2
        split at h2 <;> cases h2
    · cases h
theorem views2 (h : views M ws = some [x, y]) : ∃ w u, ws = [w, u] ∧ view M w = some x ∧ view M u = some y := by
  cases ws with
  | nil => cases h
  | cons w r =>
    unfold views at h
    split at h
    · rename_i x' xs' h1 h2
      cases h
      obtain ⟨u, e, q⟩ := views1 h2
      exact ⟨w, u, by rw [e], h1, q⟩
    · cases h
theorem VRs.one {w : W} (h : VRs K F ρ vs [w]) : ∃ v, vs = [v] ∧ VR K F ρ v w := by
  cases h with
  | cons q r =>
    cases r
    exact ⟨_, rfl, q⟩
theorem VRs.two {w u : W} (h : VRs K F ρ vs [w, u]) : ∃ v v', vs = [v, v'] ∧ VR K F ρ v w ∧ VR K F ρ v' u := by
  cases h with
  | cons q r =>
    obtain ⟨v', e, q'⟩ := VRs.one r
    exact ⟨_, _, by rw [e], q, q'⟩
end
theorem log_small {n : Nat} (h : n < 4294967296) : n.log2 < 1920 := by
  by_cases hn : n = 0
  · subst hn
    decide
  · exact Nat.lt_trans ((Nat.log2_lt hn).mpr (show n < 2 ^ 32 from h)) (by decide)
theorem on1_inv {f : PyData → Option PyData} {xs : List PyData} {z : PyData} (h : on1 f xs = some z) : ∃ x, xs = [x] ∧ f x = some z := by
  unfold on1 at h
  split at h
  · exact ⟨_, rfl, h⟩
  · cases h
theorem onL_inv {f : List PyData → Option PyData} {xs : List PyData} {z : PyData} (h : onL f xs = some z) : ∃ x, xs = [.list x] ∧ f x = some z := by
  unfold onL at h
  split at h
  · exact ⟨_, rfl, h⟩
  · cases h
theorem onLT_inv {f : List PyData → PyData} {xs : List PyData} {z : PyData} (h : onLT f xs = some z) : ∃ x, (xs = [.list x] ∨ xs = [.tuple x]) ∧ f x = z := by
  unfold onLT at h
  split at h
  · exact ⟨_, .inl rfl, Option.some.inj h⟩
  · exact ⟨_, .inr rfl, Option.some.inj h⟩
  · cases h
theorem onII_inv {f : Int → Int → PyData} {xs : List PyData} {z : PyData} (h : onII f xs = some z) : ∃ i j, xs = [.int i, .int j] ∧ f i j = z := by
  unfold onII at h
  split at h
  · exact ⟨_, _, rfl, Option.some.inj h⟩
  · cases h
theorem onI_inv {f : Int → Option PyData} {xs : List PyData} {z : PyData} (h : onI f xs = some z) : ∃ x, xs = [.int x] ∧ f x = some z := by
  unfold onI at h
  split at h
  · exact ⟨_, rfl, h⟩
  · cases h
theorem onS_inv {f : Str → Option PyData} {xs : List PyData} {z : PyData} (h : onS f xs = some z) : ∃ x, xs = [.str x] ∧ f x = some z := by
  unfold onS at h
  split at h
  · exact ⟨_, rfl, h⟩
  · cases h
theorem map_inv {α β : Type} {f : α → β} {o : Option α} {z : β} (h : o.map f = some z) : ∃ x, o = some x ∧ f x = z := by
  cases o with
  | none => cases h
  | some x => exact ⟨x, rfl, Option.some.inj h⟩
/-- what a builtin wants of its arguments -/
theorem rows_zip {F : Hp} {tu : Bool} : ∀ {rs : List (List Int)} {us : List V}, DRs F us (rs.map (rowD tu)) → ∃ bs : List (V × List Int), bs.map (·.1) = us ∧ bs.map (·.2) = rs ∧ ∀ b ∈ bs, DR F b.1 (rowD tu b.2)
  | [], _, h => by
    cases h
    exact ⟨[], rfl, rfl, fun b hb => absurd hb (by simp)⟩
  | r :: rs, _, h => by
    cases h with
    | cons h1 h2 =>
      obtain ⟨bs, rfl, rfl, q⟩ := rows_zip h2
      exact ⟨(_, r) :: bs, rfl, rfl, fun b hb => by
        rcases List.mem_cons.mp hb with e | e
        · rw [e]
          exact h1
        · exact q b e⟩
theorem rows_of {F : Hp} {tu : Bool} : ∀ {cs : List (V × List Int)}, (∀ b ∈ cs, DR F b.1 (rowD tu b.2)) → DRs F (cs.map (·.1)) ((cs.map (·.2)).map (rowD tu))
  | [], _ => .nil
  | c :: cs, h => .cons (h c (by simp)) (rows_of fun b hb => h b (List.mem_cons_of_mem _ hb))
theorem blt_r {X : Cx} {C : Nat → Addr} (hc : X.calm = true) (hu : X.A.units + 65 < cLine) (b : BF) : ∃ r : List V → Hp → VK → Prop, CallR X (bltF b) r ∧
    ∀ {F H : Hp} {ρ : List Addr} {M : MH} {E : Nat → Hp → Prop} {Q : V → Hp → Prop} {vs : List V} {ws : List W} {xs : List PyData} {z : PyData} {mu : Bool}, Rl X.K C F H ρ M → VRs X.K F ρ vs ws → views M ws = some xs → bltD b xs = some z → Pst X.K C F H ρ E Q (match z with
      | .list zs => some (newL (mu && isMB b) zs M)
      | z => some (.val (.d z) M)) → r vs H Q := by
  cases b
  · -- len
    refine ⟨_, CallR.or call_len_seq call_len_str, ?_⟩
    intro F H ρ M E Q vs ws xs z mu R rs e hz q
    obtain ⟨x, rfl, hx⟩ := on1_inv hz
    obtain ⟨w, rfl, e1⟩ := views1 e
    obtain ⟨v, rfl, rv⟩ := rs.one
    obtain ⟨n, hn, rfl⟩ := map_inv hx
    cases x with
    | list zs =>
      cases hn
      obtain ⟨a, us, rfl, s, d⟩ := rv.viewL R e1
      refine .inl ⟨a, us, rfl, .inl s, ?_⟩
      rw [d.length]
      exact out_int R q
    | tuple zs =>
      cases hn
      obtain ⟨a, us, rfl, s, d, _⟩ := rv.viewT R e1
      refine .inl ⟨a, us, rfl, .inr s, ?_⟩
      rw [d.length]
      exact out_int R q
    | str z =>
      have := rv.viewS R e1
      subst this
      unfold lenD at hn
      simp only at hn
      split at hn
      · rename_i hcap
        cases hn
        exact .inr ⟨z, rfl, capS hcap, out_int R q⟩
      · cases hn
    | _ => cases hn
  · -- max of a list
    refine ⟨_, cr_max hc, ?_⟩
    intro F H ρ M E Q vs ws xs z mu R rs e hz q
    obtain ⟨zs, rfl, hx⟩ := onL_inv hz
    obtain ⟨w, rfl, e1⟩ := views1 e
    obtain ⟨v, rfl, rv⟩ := rs.one
    obtain ⟨a, us, rfl, s, d⟩ := rv.viewL R e1
    split at hx
    · rename_i b r hi
      cases hx
      rw [d.ints hi] at s
      refine ⟨a, _, rfl, s, by simp, fun m hm hle => ?_⟩
      obtain ⟨g1, g2⟩ := maxL_spec r b
      have em : m = maxL b r := Int.le_antisymm (g2 m hm) (hle _ g1)
      rw [em]
      exact out_int R q
    · cases hx
  · -- min of a list
    refine ⟨_, CallR.or (cr_min hc) (cr_minR hc hu), ?_⟩
    intro F H ρ M E Q vs ws xs z mu R rs e hz q
    obtain ⟨zs, rfl, hx⟩ := onL_inv hz
    obtain ⟨w, rfl, e1⟩ := views1 e
    obtain ⟨v, rfl, rv⟩ := rs.one
    obtain ⟨a, us, rfl, s, d⟩ := rv.viewL R e1
    unfold minD1 at hx
    split at hx
    · rename_i b r hi
      cases hx
      rw [d.ints hi] at s
      refine .inl ⟨a, _, rfl, s, by simp, fun m hm hle => ?_⟩
      obtain ⟨g1, g2⟩ := minL_spec r b
      have em : m = minL b r := Int.le_antisymm (hle _ g1) (g2 m hm)
      rw [em]
      exact out_int R q
    · split at hx
      · rename_i tu b r hi
        cases hx
        obtain ⟨i1, i2⟩ := rowsA_eq hi
        simp only at i1
        rw [i1] at d
        obtain ⟨bs, b1, b2, b3⟩ := rows_zip d
        cases bs with
        | nil => cases b2
        | cons c cs =>
          cases b2
          refine .inr ⟨a, tu, c, cs, rfl, by rw [b1]; exact s, fun y hy => DR.dp R.sub _ _ (b3 y hy), fun y hy ey => ?_⟩
          have dy := b3 y hy
          rw [ey] at dy
          have q' : Pst X.K C F H ρ E Q (some (.val (.d (rowD tu (minR c.2 (cs.map (·.2))))) M)) := by
            cases tu with
            | true => exact q
            | false =>
              cases mu <;> exact q
          exact out_same R dy q'
      · cases hx
  · -- max of two
    refine ⟨_, call_max2 hc, ?_⟩
    intro F H ρ M E Q vs ws xs z mu R rs e hz q
    obtain ⟨i, j, rfl, rfl⟩ := onII_inv hz
    obtain ⟨w, u, rfl, e1, e2⟩ := views2 e
    obtain ⟨v, v', rfl, r1, r2⟩ := rs.two
    have h1 := r1.viewI R e1
    have h2 := r2.viewI R e2
    subst h1 h2
    exact ⟨i, j, rfl, out_int R q⟩
  · -- min of two
    refine ⟨_, call_min2 hc, ?_⟩
    intro F H ρ M E Q vs ws xs z mu R rs e hz q
    obtain ⟨i, j, rfl, rfl⟩ := onII_inv hz
    obtain ⟨w, u, rfl, e1, e2⟩ := views2 e
    obtain ⟨v, v', rfl, r1, r2⟩ := rs.two
    have h1 := r1.viewI R e1
    have h2 := r2.viewI R e2
    subst h1 h2
    exact ⟨i, j, rfl, out_int R q⟩
  · -- sum
    refine ⟨_, cr_sum hc, ?_⟩
    intro F H ρ M E Q vs ws xs z mu R rs e hz q
    obtain ⟨zs, rfl, hx⟩ := onL_inv hz
    obtain ⟨w, rfl, e1⟩ := views1 e
    obtain ⟨v, rfl, rv⟩ := rs.one
    obtain ⟨a, us, rfl, s, d⟩ := rv.viewL R e1
    obtain ⟨ns, hi, rfl⟩ := map_inv hx
    rw [d.ints hi] at s
    exact ⟨a, ns, rfl, s, out_int R q⟩
  · -- all
    refine ⟨_, cr_all hc, ?_⟩
    intro F H ρ M E Q vs ws xs z mu R rs e hz q
    obtain ⟨zs, rfl, hx⟩ := onL_inv hz
    obtain ⟨w, rfl, e1⟩ := views1 e
    obtain ⟨v, rfl, rv⟩ := rs.one
    obtain ⟨a, us, rfl, s, d⟩ := rv.viewL R e1
    obtain ⟨ns, hi, rfl⟩ := map_inv hx
    rw [d.bools hi] at s
    exact ⟨a, ns, rfl, s, out_bl R q⟩
  · -- any
    refine ⟨_, cr_any hc, ?_⟩
    intro F H ρ M E Q vs ws xs z mu R rs e hz q
    obtain ⟨zs, rfl, hx⟩ := onL_inv hz
    obtain ⟨w, rfl, e1⟩ := views1 e
    obtain ⟨v, rfl, rv⟩ := rs.one
    obtain ⟨a, us, rfl, s, d⟩ := rv.viewL R e1
    obtain ⟨ns, hi, rfl⟩ := map_inv hx
    rw [d.bools hi] at s
    exact ⟨a, ns, rfl, s, out_bl R q⟩
  · -- sorted
    refine ⟨_, CallR.or cr_sortedI (cr_sortedR hu), ?_⟩
    intro F H ρ M E Q vs ws xs z mu R rs e hz q
    obtain ⟨zs, rfl, hx⟩ := onL_inv hz
    obtain ⟨w, rfl, e1⟩ := views1 e
    obtain ⟨v, rfl, rv⟩ := rs.one
    obtain ⟨a, us, rfl, s, d⟩ := rv.viewL R e1
    unfold sortedD at hx
    split at hx
    · rename_i ns hi
      cases hx
      rw [d.ints hi] at s
      refine .inl ⟨a, ns, rfl, s, fun ns' p hp hs hn => ?_⟩
      have en : ns' = sortI ns := sorted_one (hp.trans (sortI_perm ns).symm) hs (sortI_sorted ns)
      rw [en]
      exact out_newL R (DRs.of_ints _) q p hn
    · obtain ⟨pr, hi, rfl⟩ := map_inv hx
      obtain ⟨tu, rs'⟩ := pr
      obtain ⟨i1, i2⟩ := rowsA_eq hi
      simp only at i1 i2 q
      rw [i1] at d
      obtain ⟨bs, b1, b2, b3⟩ := rows_zip d
      subst b2
      refine .inr ⟨a, tu, bs, rfl, by rw [b1]; exact s, fun y hy => DR.dp R.sub _ _ (b3 y hy), fun y hy => i2 _ (List.mem_map.mpr ⟨y, hy, rfl⟩), fun cs p hp hs hn => ?_⟩
      have dc := rows_of (tu := tu) (F := F) (cs := cs) fun b hb => b3 b (hp.mem_iff.mp hb)
      rw [hs] at dc
      exact out_newL R dc q p hn
  · -- list
    refine ⟨_, call_list_of, ?_⟩
    intro F H ρ M E Q vs ws xs z mu R rs e hz q
    obtain ⟨zs, hh, rfl⟩ := onLT_inv hz
    rcases hh with rfl | rfl
    · obtain ⟨w, rfl, e1⟩ := views1 e
      obtain ⟨v, rfl, rv⟩ := rs.one
      obtain ⟨a, us, rfl, s, d⟩ := rv.viewL R e1
      exact ⟨a, us, rfl, .inl s, out_newL R d q⟩
    · obtain ⟨w, rfl, e1⟩ := views1 e
      obtain ⟨v, rfl, rv⟩ := rs.one
      obtain ⟨a, us, rfl, s, d, _⟩ := rv.viewT R e1
      exact ⟨a, us, rfl, .inr s, out_newL R d q⟩
  · -- tuple
    refine ⟨_, call_tuple_of, ?_⟩
    intro F H ρ M E Q vs ws xs z mu R rs e hz q
    obtain ⟨zs, hh, rfl⟩ := onLT_inv hz
    rcases hh with rfl | rfl
    · obtain ⟨w, rfl, e1⟩ := views1 e
      obtain ⟨v, rfl, rv⟩ := rs.one
      obtain ⟨a, us, rfl, s, d⟩ := rv.viewL R e1
      exact ⟨a, us, rfl, .inl ⟨s, out_tup R d q⟩⟩
    · obtain ⟨w, rfl, e1⟩ := views1 e
      obtain ⟨v, rfl, rv⟩ := rs.one
      obtain ⟨a, us, rfl, s, d, dd⟩ := rv.viewT R e1
      exact ⟨a, us, rfl, .inr ⟨s, out_same R dd q⟩⟩
  · -- str
    refine ⟨_, call_str_int, ?_⟩
    intro F H ρ M E Q vs ws xs z mu R rs e hz q
    obtain ⟨i, rfl, hx⟩ := onI_inv hz
    obtain ⟨w, rfl, e1⟩ := views1 e
    obtain ⟨v, rfl, rv⟩ := rs.one
    have := rv.viewI R e1
    subst this
    split at hx
    · rename_i hcap
      cases hx
      exact ⟨i, rfl, log_small hcap, out_str R q⟩
    · cases hx
  · -- int
    refine ⟨_, call_int_str, ?_⟩
    intro F H ρ M E Q vs ws xs z mu R rs e hz q
    obtain ⟨a, rfl, hx⟩ := onS_inv hz
    obtain ⟨w, rfl, e1⟩ := views1 e
    obtain ⟨v, rfl, rv⟩ := rs.one
    have := rv.viewS R e1
    subst this
    split at hx
    · rename_i hcap
      obtain ⟨n, hn, rfl⟩ := map_inv hx
      exact ⟨a, n, rfl, hn, hcap, out_int R q⟩
    · cases hx
end Wl

set_option Elab.async false
set_option linter.all false
set_option maxRecDepth 100000
set_option maxHeartbeats 1000000
namespace Wl
open PySem PySem.Spec PyProof.Rows L2

/-! methods -/
theorem plainAll_of : ∀ xs : List PyData, PyData.canLayAll0 xs = true → PyData.plainAll xs = true := fun xs h => by
  have q := PyData.plain_of_canLay0 (.list xs) (by
    first
      | exact h
      | (unfold PyData.canLay0; exact h))
  first
    | exact q
    | (unfold PyData.plain at q; exact q)
def rCountD (K : PySem.W.Frag) : V → List V → Hp → VK → Prop := fun x xs H Q => ∃ (y : V) (d : PyData) (ds : List PyData), xs = [y] ∧ Dp K H x (.list ds) ∧ Dp K H y d ∧ SeqAt.shaped (.list ds) = true ∧ SeqAt.shaped d = true ∧
  Q (.int ((ds.countP fun z => PyData.eqv z d : Nat) : Int)) H
theorem mt_countD {X : Cx} (hu : X.A.units + 65 < cLine) : MtR X "list.count" (rCountD X.K) := by
  intro pins s σ H x xs v us Q I rx rs h
  obtain ⟨y, d, ds, rfl, hl, hy, sl, sd, q⟩ := h
  obtain ⟨u, rfl, ry⟩ := Vals.one rs
  obtain ⟨bs, r1⟩ := Dp.reads I d y u hy ry
  cases hl with
  | lst hs ha =>
    cases rx
    obtain ⟨its, rv, pl, hlen⟩ := I.list hs
    obtain ⟨as, h4⟩ := Dp.readsAll I ds _ its ha rv
    have hd := SeqAt.depth_of_shaped sd
    refine PySem.SeqAt.count_list_data (vs := its.toArray) pl.isList h4 r1 (plainAll_of ds (SeqAt.canLay_of_shaped sl)) (PyData.plain_of_canLay0 d (SeqAt.canLay_of_shaped sd)) ?_ ⟨.int _, H, I.tok _, ⟨_, rfl⟩, q⟩
    have : min (PyData.depthAll ds) d.depth ≤ d.depth := Nat.min_le_right _ _
    omega
def mthT : MF → String
  | .index => "list"
  | .count => "list"
  | .join => "str"
  | .split => "str"
def mthI : MF → String
  | .index => "list.index"
  | .count => "list.count"
  | .join => "str.join"
  | .split => "str.split"
theorem findIdx_at {α : Type} {p : α → Bool} : ∀ {xs : List α} {j : Nat}, xs.findIdx? p = some j → ∃ z, xs[j]? = some z ∧ p z = true ∧ ∀ (m : Nat) (z' : α), m < j → xs[m]? = some z' → p z' = false := by
  intro xs j h
  rw [List.findIdx?_eq_some_iff_getElem] at h
  obtain ⟨h1, h2, h3⟩ := h
  refine ⟨xs[j], List.getElem?_eq_getElem h1, h2, fun m z' hm e => ?_⟩
  have q := h3 m hm
  rw [List.getElem?_eq_getElem (by omega)] at e
  cases e
  simpa using q
theorem mth_r {X : Cx} {C : Nat → Addr} (hu : X.A.units + 65 < cLine) (f : MF) : ∃ r : V → List V → Hp → VK → Prop, MtR X (mthI f) r ∧
    ∀ {F H : Hp} {ρ : List Addr} {M : MH} {E : Nat → Hp → Prop} {Q : V → Hp → Prop} {v w : V} {x y z : PyData} {wy : W}, Rl X.K C F H ρ M → DR F v x → VR X.K F ρ w wy → Wl.view M wy = some y → mthD f x y = some z → Pst X.K C F H ρ E Q (some (.val (.d z) M)) → r v [w] H Q := by
  cases f
  · refine ⟨_, mt_indexD hu, ?_⟩
    intro F H ρ M E Q v w x y z wy R dx ry ey hz q
    cases x with
    | list xs =>
      simp only [mthD] at hz
      split at hz
      · rename_i hc
        rw [Bool.and_eq_true] at hc
        split at hz
        · rename_i j hj
          cases hz
          obtain ⟨z', g1, g2, g3⟩ := findIdx_at hj
          have hx := DR.dp (K := X.K) R.sub _ _ dx
          cases hx with
          | lst s1 s2 => exact ⟨_, w, y, xs, j, z', rfl, rfl, .lst s1 s2, ry.view R ey, hc.2, hc.1, g1, g2, g3, out_int R q⟩
        · cases hz
      · cases hz
    | _ => exact absurd hz (by intro h; cases h)
  · refine ⟨_, mt_countD hu, ?_⟩
    intro F H ρ M E Q v w x y z wy R dx ry ey hz q
    cases x with
    | list xs =>
      simp only [mthD] at hz
      split at hz
      · rename_i hc
        rw [Bool.and_eq_true] at hc
        cases hz
        exact ⟨w, y, xs, rfl, DR.dp R.sub _ _ dx, ry.view R ey, hc.2, hc.1, out_int R q⟩
      · cases hz
    | _ => exact absurd hz (by intro h; cases h)
  · refine ⟨_, mt_join, ?_⟩
    intro F H ρ M E Q v w x y z wy R dx ry ey hz q
    cases dx with
    | str a =>
      cases y with
      | list xs =>
        simp only [mthD] at hz
        split at hz
        · rename_i ys hs
          split at hz
          · rename_i hc
            cases hz
            obtain ⟨p, us, rfl, s, d⟩ := ry.viewL R ey
            rw [d.strs hs] at s
            refine ⟨a, p, ys, rfl, rfl, .inl s, ?_, out_str R q⟩
            have := capS hc
            rw [sizeLine_eq] at this
            exact this
          · cases hz
        · cases hz
      | _ => exact absurd hz (by intro h; cases h)
    | _ => exact absurd hz (by intro h; cases h)
  · refine ⟨_, mt_split, ?_⟩
    intro F H ρ M E Q v w x y z wy R dx ry ey hz q
    cases dx with
    | str a =>
      cases y with
      | str b =>
        have := ry.viewS R ey
        subst this
        simp only [mthD] at hz
        split at hz
        · rename_i hc
          cases hz
          refine ⟨a, b, rfl, rfl, hc.1, ?_, out_lst R (DRs.of_strs _) q⟩
          have := hc.2
          rw [sizeLine_eq]
          unfold cap at this
          omega
        · cases hz
      | _ => exact absurd hz (by intro h; cases h)
    | _ => exact absurd hz (by intro h; cases h)

/-! isinstance -/
def rIsX (K : PySem.W.Frag) : List V → Hp → VK → Prop := fun xs H Q => ∃ (a D : Addr) (c : V) (cv : Value) (b : Bool), xs = [.ref a, c] ∧ H a = some (.ext (excP a D)) ∧ ExcC K D ∧ (∀ u, RelV c u → u = cv) ∧ PySem.W.kitOne K (.ref D) cv = some b ∧ Q (.bl b) H
theorem call_isX {X : Cx} : CallR X (.builtin "isinstance") (rIsX X.K) := by
  intro pins s σ H xs us Q I r h
  obtain ⟨a, D, c, cv, b, rfl, hH, T, hcv, e, q⟩ := h
  obtain ⟨u1, u2, rfl, rx, rt⟩ := vals2 r
  cases rx
  have ec := hcv _ rt
  subst ec
  obtain ⟨⟨o, fs, g1, g2, g3, g4⟩, _⟩ := I.hok a _ hH
  have J : PySem.W.InstAt s.heap a o D none := by
    obtain ⟨oc, od, oda, osl⟩ := o
    dsimp only at g2 g3 g4
    subst g2 g3 g4
    exact ⟨g1, rfl, rfl, trivial⟩
  exact PySem.W.kia_one (PySem.W.handS_kitx_exc T.hg T.hk T.hs T.hd T.ha T.hn T.ht T.hm) I.kIn J e (fun z => nomatch z) fun tk => ⟨.bl b, H, I.kept (t' := tk) fun _ _ z => z, rfl, q⟩
def tyName : PyData → String
  | .none => "NoneType"
  | .bool _ => "bool"
  | .int _ => "int"
  | .str _ => "str"
  | .list _ => "list"
  | .tuple _ => "tuple"
  | .dict _ => "dict"
def itName : IT → String
  | .int => "int"
  | .bool => "bool"
  | .list => "list"
  | .tuple => "tuple"
  | .str => "str"
  | .verr => "ValueError"
  | .own _ => ""
theorem DR.ty {K : PySem.W.Frag} {F H : Hp} {v : V} {x : PyData} (e : Same F H) (h : DR F v x) : TyX K H v (.type (tyName x)) := by
  cases h with
  | non => exact .base .non
  | bl b => exact .base (.bl b)
  | int i => exact .base (.int i)
  | str s => exact .base (.str s)
  | lst q r => exact .base (.lst (e _ _ q))
  | tup q r => exact .base (.tup (e _ _ q))
theorem isi_kit {K : PySem.W.Frag} {t : IT} {x : PyData} {b : Bool} (h : isiD t x = some b) : PySem.W.kitOne K (.type (tyName x)) (.type (itName t)) = some b := by
  refine kit_ty ?_
  cases t <;> cases x <;> simp only [isiD] at h <;> first | (cases h; done) | (cases h; simp only [tyName, itName]; decide +kernel)
end Wl

set_option Elab.async false
set_option linter.all false
set_option maxRecDepth 100000
set_option maxHeartbeats 1000000
namespace Wl
open PySem PySem.Spec PyProof.Rows L2

/-! ### which text an expression of the little language stands for -/
structure Gc where
  fs : List Str
  cs : List Str
  gl : List (Str × PyData)
  ex : Bool
  ini : Option (Str × Nat) := none
  ms : List (Str × Nat) := []
structure Cc where
  N : List Str
  sc : Scope
  fn : Str → Bool
def visB (c : Cc) (x : Str) : Bool := match c.sc.names.lookup x with
  | some .local => true
  | some .cell => true
  | some .free => true
  | _ => false
def locB (c : Cc) (x : Str) : Bool := match c.sc.names.lookup x with
  | some .local => true
  | some .cell => true
  | _ => false
def glbB (c : Cc) (x : Str) : Bool := match c.sc.names.lookup x with
  | some .globalImplicit => true
  | _ => false
def stoB (c : Cc) (x : Str) : Bool := c.fn x || match c.sc.names.lookup x with
  | some .local => true
  | _ => false
def okN (x : Str) : Bool := (!(x == ("__debug__" : Str))) && (!(x == ("__classdict__" : Str))) && (!(x == ("__name__" : Str))) && !(x == ("" : Str))
def cstM : PyData → Const → Bool
  | .none, .none => true
  | .bool a, .bool b => a == b
  | .int a, .int b => decide (a = b)
  | .str a, .str b => decide (a = b)
  | _, _ => false
def eqS : PyData → PyData → Bool
  | .int a, .int b => decide (a = b)
  | .str a, .str b => decide (a = b)
  | _, _ => false
def vName : Expr → Option Str
  | .Name x _ => some x
  | _ => none
def vCst : Expr → Option Const
  | .Constant k _ _ => some k
  | _ => none
def vBin : Expr → Option (Expr × Operator × Expr)
  | .BinOp a o b _ => some (a, o, b)
  | _ => none
def vNeg : Expr → Option Expr
  | .UnaryOp .USub a _ => some a
  | _ => none
def vNot : Expr → Option Expr
  | .UnaryOp .Not a _ => some a
  | _ => none
def notSet : Expr → Bool
  | .Set _ _ _ => false
  | _ => true
def vCmp : Expr → Option (Expr × CmpOp × Expr)
  | .Compare a [o] [b] _ => if notSet b then some (a, o, b) else none
  | _ => none
def vChn : Expr → Option (Expr × CmpOp × CmpOp × Expr × Expr)
  | .Compare a [o, p] [b, c] _ => if notSet c then some (a, o, p, b, c) else none
  | _ => none
def vBop : Expr → Option (BoolOp × List Expr)
  | .BoolOp o es _ => some (o, es)
  | _ => none
def vIfe : Expr → Option (Expr × Expr × Expr)
  | .IfExp t a b _ => some (t, a, b)
  | _ => none
def vLst : Expr → Option (List Expr)
  | .List es _ => some es
  | _ => none
def vTup : Expr → Option (List Expr)
  | .Tuple es _ _ => some es
  | _ => none
def isSli : Expr → Bool
  | .Slice _ _ _ _ => true
  | _ => false
def vSub : Expr → Option (Expr × Expr)
  | .Subscript a i _ => if isSli i then none else some (a, i)
  | _ => none
def vSli : Expr → Option (Expr × Option Expr × Option Expr)
  | .Subscript a (.Slice lo hi none _) _ => some (a, lo, hi)
  | _ => none
def vRev : Expr → Option Expr
  | .Subscript a (.Slice none none (some (.UnaryOp .USub (.Constant (.int 1) _ _) _)) _) _ => some a
  | _ => none
def vCall : Expr → Option (Str × List Expr)
  | .Call (.Name x _) es [] _ => some (x, es)
  | _ => none
def notCall : Expr → Bool
  | .Call (.Attribute _ _ _) _ _ _ => true
  | .Call _ _ _ _ => false
  | _ => true
def vAtt : Expr → Option (Expr × Str)
  | .Attribute a f _ => if notCall a then some (a, f) else none
  | _ => none
def vMct : Expr → Option (Expr × Str × List Expr)
  | .Call (.Attribute o m p) es [] q => if (p.endLine == q.line) && notCall o then some (o, m, es) else none
  | _ => none
def vMth : Expr → Option (Expr × Str × Expr)
  | .Call (.Attribute o m p) [a] [] q => if (p.endLine == q.line) && notCall o then some (o, m, a) else none
  | _ => none
def vLc : Expr → Option (Expr × Expr × Expr × List Expr × Scope)
  | .ListComp elt [⟨tg, it, ifs, 0⟩] sc _ => some (elt, tg, it, ifs, sc)
  | _ => none
def notStar : Expr → Bool
  | .Starred _ _ => false
  | _ => true
def isSet : Expr → Bool
  | .Set _ _ _ => true
  | _ => false
def isDct : Expr → Bool
  | .Dict [] [] _ => true
  | _ => false
def vGet : Expr → Option (Expr × Expr × Expr)
  | .Call (.Attribute o m p) [a, b] [] q => if decide (m = ("get" : Str)) && (p.endLine == q.line) && notCall o then some (o, a, b) else none
  | _ => none
def vLrg : Expr → Option (Str × Str × List Expr)
  | .Call (.Name x _) [.Call (.Name y _) es [] _] [] _ => some (x, y, es)
  | _ => none
def vFst : Expr → Option (Expr × Expr)
  | .JoinedStr [.FormattedValue a (-1) none _, .Constant (.str s) _ _, .FormattedValue b (-1) none _] _ => if s = (":" : Str) then some (a, b) else none
  | _ => none
section
variable {e : Expr}
theorem isDct_eq (h : isDct e = true) : ∃ p, e = .Dict [] [] p := by
  unfold isDct at h
  split at h
  · exact ⟨_, rfl⟩
  · cases h
theorem vAtt_eq {a : Expr} {f : Str} (h : vAtt e = some (a, f)) : ∃ p, e = .Attribute a f p ∧ notCall a = true := by
  unfold vAtt at h
  split at h
  · split at h
    · cases h
      exact ⟨_, rfl, by assumption⟩
    · cases h
  · cases h
theorem vMct_eq {o : Expr} {m : Str} {es : List Expr} (h : vMct e = some (o, m, es)) : ∃ p q, e = .Call (.Attribute o m p) es [] q ∧ (p.endLine == q.line) = true ∧ notCall o = true := by
  unfold vMct at h
  split at h
  · split at h
    · rename_i hc
      cases h
      rw [Bool.and_eq_true] at hc
      exact ⟨_, _, rfl, hc.1, hc.2⟩
    · cases h
  · cases h
theorem vGet_eq {o a b : Expr} (h : vGet e = some (o, a, b)) : ∃ p q, e = .Call (.Attribute o ("get" : Str) p) [a, b] [] q ∧ (p.endLine == q.line) = true ∧ notCall o = true := by
  unfold vGet at h
  split at h
  · split at h
    · rename_i hc
      cases h
      simp only [Bool.and_eq_true, decide_eq_true_eq] at hc
      obtain ⟨⟨rfl, h2⟩, h3⟩ := hc
      exact ⟨_, _, rfl, h2, h3⟩
    · cases h
  · cases h
theorem vLrg_eq {x y : Str} {es : List Expr} (h : vLrg e = some (x, y, es)) : ∃ p q r s, e = .Call (.Name x p) [.Call (.Name y q) es [] r] [] s := by
  unfold vLrg at h
  split at h
  · cases h
    exact ⟨_, _, _, _, rfl⟩
  · cases h
theorem vFst_eq {a b : Expr} (h : vFst e = some (a, b)) : ∃ p q k r s, e = .JoinedStr [.FormattedValue a (-1) none p, .Constant (.str (":" : Str)) k q, .FormattedValue b (-1) none r] s := by
  unfold vFst at h
  split at h
  · split at h
    · rename_i hc
      cases h
      subst hc
      exact ⟨_, _, _, _, _, rfl⟩
    · cases h
  · cases h
theorem vName_eq {x : Str} (h : vName e = some x) : ∃ p, e = .Name x p := by
  cases e <;> cases h
  exact ⟨_, rfl⟩
theorem vCst_eq {x : Const} (h : vCst e = some x) : ∃ k p, e = .Constant x k p := by
  cases e <;> cases h
  exact ⟨_, _, rfl⟩
theorem vBin_eq {a b : Expr} {o : Operator} (h : vBin e = some (a, o, b)) : ∃ p, e = .BinOp a o b p := by
  cases e <;> cases h
  exact ⟨_, rfl⟩
theorem vNeg_eq {a : Expr} (h : vNeg e = some a) : ∃ p, e = .UnaryOp .USub a p := by
  unfold vNeg at h
  split at h <;> cases h
  exact ⟨_, rfl⟩
theorem vNot_eq {a : Expr} (h : vNot e = some a) : ∃ p, e = .UnaryOp .Not a p := by
  unfold vNot at h
  split at h <;> cases h
  exact ⟨_, rfl⟩
theorem vCmp_eq {a b : Expr} {o : CmpOp} (h : vCmp e = some (a, o, b)) : ∃ p, e = .Compare a [o] [b] p ∧ notSet b = true := by
  unfold vCmp at h
  split at h
  · split at h
    · cases h
      exact ⟨_, rfl, by assumption⟩
    · cases h
  · cases h
theorem vChn_eq {a b c : Expr} {o p : CmpOp} (h : vChn e = some (a, o, p, b, c)) : ∃ q, e = .Compare a [o, p] [b, c] q ∧ notSet c = true := by
  unfold vChn at h
  split at h
  · split at h
    · cases h
      exact ⟨_, rfl, by assumption⟩
    · cases h
  · cases h
theorem vBop_eq {o : BoolOp} {es : List Expr} (h : vBop e = some (o, es)) : ∃ p, e = .BoolOp o es p := by
  cases e <;> cases h
  exact ⟨_, rfl⟩
theorem vIfe_eq {t a b : Expr} (h : vIfe e = some (t, a, b)) : ∃ p, e = .IfExp t a b p := by
  cases e <;> cases h
  exact ⟨_, rfl⟩
theorem vLst_eq {es : List Expr} (h : vLst e = some es) : ∃ p, e = .List es p := by
  cases e <;> cases h
  exact ⟨_, rfl⟩
theorem vTup_eq {es : List Expr} (h : vTup e = some es) : ∃ k p, e = .Tuple es k p := by
  cases e <;> cases h
  exact ⟨_, _, rfl⟩
theorem vSub_eq {a i : Expr} (h : vSub e = some (a, i)) : ∃ p, e = .Subscript a i p ∧ isSli i = false := by
  unfold vSub at h
  split at h
  · split at h
    · cases h
    · rename_i hn
      cases h
      exact ⟨_, rfl, by simpa using hn⟩
  · cases h
theorem vSli_eq {a : Expr} {lo hi : Option Expr} (h : vSli e = some (a, lo, hi)) : ∃ p q, e = .Subscript a (.Slice lo hi none p) q := by
  unfold vSli at h
  split at h
  · cases h
    exact ⟨_, _, rfl⟩
  · cases h
theorem vRev_eq {a : Expr} (h : vRev e = some a) : ∃ k p1 p2 p3 p4, e = .Subscript a (.Slice none none (some (.UnaryOp .USub (.Constant (.int 1) k p1) p2)) p3) p4 := by
  unfold vRev at h
  split at h
  · cases h
    exact ⟨_, _, _, _, _, rfl⟩
  · cases h
theorem vCall_eq {x : Str} {es : List Expr} (h : vCall e = some (x, es)) : ∃ p q, e = .Call (.Name x p) es [] q := by
  unfold vCall at h
  split at h
  · cases h
    exact ⟨_, _, rfl⟩
  · cases h
theorem vMth_eq {o a : Expr} {m : Str} (h : vMth e = some (o, m, a)) : ∃ p q, e = .Call (.Attribute o m p) [a] [] q ∧ (p.endLine == q.line) = true ∧ notCall o = true := by
  unfold vMth at h
  split at h
  · split at h
    · rename_i hc
      cases h
      rw [Bool.and_eq_true] at hc
      exact ⟨_, _, rfl, hc.1, hc.2⟩
    · cases h
  · cases h
theorem vLc_eq {elt tg it : Expr} {ifs : List Expr} {sc : Scope} (h : vLc e = some (elt, tg, it, ifs, sc)) : ∃ p, e = .ListComp elt [⟨tg, it, ifs, 0⟩] sc p := by
  unfold vLc at h
  split at h
  · cases h
    exact ⟨_, rfl⟩
  · cases h
end
/-- targets -/
def ckN (c : Cc) (i : Nat) (e : Expr) : Bool := match vName e with
  | some x => decide (c.N[i]? = some x) && locB c x && stoB c x
  | none => false
def ckNs (c : Cc) : List Nat → List Expr → Bool
  | [], [] => true
  | i :: is, e :: es => ckN c i e && ckNs c is es
  | _, _ => false
def ckT (c : Cc) (g : List Nat) (e : Expr) : Bool := match g with
  | [] => false
  | [i] => ckN c i e
  | g => match vTup e with
    | some es => ckNs c g es
    | none => false
def bltNm : BF → Str
  | .len => "len"
  | .max1 => "max"
  | .min1 => "min"
  | .max2 => "max"
  | .min2 => "min"
  | .sum => "sum"
  | .all => "all"
  | .any => "any"
  | .sorted => "sorted"
  | .list => "list"
  | .tuple => "tuple"
  | .str => "str"
  | .int => "int"
def itNm : IT → Str
  | .int => "int"
  | .bool => "bool"
  | .list => "list"
  | .tuple => "tuple"
  | .str => "str"
  | .verr => "ValueError"
  | .own _ => ""
def mthNm : MF → Str
  | .index => "index"
  | .count => "count"
  | .join => "join"
  | .split => "split"
def bopM : Bool → BoolOp → Bool
  | true, .And => true
  | false, .Or => true
  | _, _ => false
mutual
def tstOk : IE → Bool
  | .ife _ _ _ => false
  | .bop _ es => tstOks es
  | .not a => tstOk a
  | _ => true
def tstOks : IEs → Bool
  | .nil => true
  | .cons e es => tstOk e && tstOks es
end
def own' (c : Cc) (own : List Nat) : List (Str × Nat) := own.map fun i => (c.N.getD i "", i)
def blkCc (c : Cc) (scope : Scope) : Cc := { N := c.N, sc := relS scope c.sc, fn := fun x => scope.names.lookup x == some .cell }
mutual
def ck (g : Gc) : IE → Cc → Expr → Bool
  | .var i, c, e => match vName e with
    | some x => decide (c.N[i]? = some x) && visB c x && okN x
    | none => false
  | .cst x, _, e => match vCst e with
    | some k => cstM x k
    | none => false
  | .glb x v, c, e => match vName e with
    | some y => decide (x = y) && glbB c x && okN x && (match g.gl.lookup x with
      | some z => eqS z v
      | none => false)
    | none => false
  | .bin op a b, c, e => match vBin e with
    | some (ea, o, eb) => opM op o && ck g a c ea && ck g b c eb
    | none => false
  | .neg a, c, e => match vNeg e with
    | some ea => ck g a c ea
    | none => false
  | .cmp op a b, c, e => match vCmp e with
    | some (ea, o, eb) => cmpM op o && ck g a c ea && ck g b c eb
    | none => false
  | .chn o p a b d, c, e => match vChn e with
    | some (ea, o', p', eb, ed) => cmpM o o' && cmpM p p' && ck g a c ea && ck g b c eb && ck g d c ed
    | none => false
  | .bop k es, c, e => match vBop e with
    | some (o, l) => bopM k o && cks g es c l && !l.isEmpty
    | none => false
  | .not a, c, e => match vNot e with
    | some ea => ck g a c ea
    | none => false
  | .ife t a b, c, e => match vIfe e with
    | some (et, ea, eb) => ck g t c et && tstOk t && ck g a c ea && ck g b c eb
    | none => false
  | .lst _ es, c, e => match vLst e with
    | some l => cks g es c l
    | none => false
  | .tup es, c, e => match vTup e with
    | some l => cks g es c l
    | none => false
  | .sub a i, c, e => match vSub e with
    | some (ea, ei) => ck g a c ea && ck g i c ei
    | none => false
  | .sli a lo hi, c, e => match vSli e with
    | some (ea, l, h) => ck g a c ea && ckO g lo c l && ckO g hi c h
    | none => false
  | .rev a, c, e => match vRev e with
    | some ea => ck g a c ea
    | none => false
  | .call _ f es, c, e => match vCall e with
    | some (x, l) => decide (g.fs[f]? = some x) && glbB c x && okN x && cks g es c l
    | none => false
  | .blt b _ es, c, e => match vCall e with
    | some (x, l) => decide (x = bltNm b) && glbB c x && cks g es c l && !l.isEmpty
    | none => false
  | .isi a t, c, e => match vCall e with
    | some (x, [ea, et]) => decide (x = ("isinstance" : Str)) && glbB c x && ck g a c ea && notStar ea && notStar et && (match vName et with
      | some y => glbB c y && okN y && (match t with
        | .own k => g.ex && decide (g.cs[k]? = some y)
        | .verr => g.ex && decide (y = itNm .verr)
        | t => decide (y = itNm t))
      | none => false)
    | _ => false
  | .mth f o a, c, e => match vMth e with
    | some (eo, m, ea) => decide (m = mthNm f) && ck g o c eo && ck g a c ea && notStar ea
    | none => false
  | .lc _ own it tg ifs elt, c, e => match vLc e with
    | some (eelt, etg, eit, eifs, sc) => blkC c.N c.sc sc (own' c own) && cki g it c eit etg && ckT (blkCc c sc) tg etg && cks g ifs (blkCc c sc) eifs && tstOks ifs && ck g elt (blkCc c sc) eelt && tg.all (own.contains ·)
    | none => false
  | .dct _, _, e => isDct e
  | .dsb a i, c, e => match vSub e with
    | some (ea, ei) => ck g a c ea && ck g i c ei
    | none => false
  | .din n i a, c, e => match vCmp e with
    | some (ei, o, ea) => cmpM (if n then .nin else .inn) o && ck g i c ei && ck g a c ea
    | none => false
  | .dgt a i d, c, e => match vGet e with
    | some (ea, ei, ed) => ck g a c ea && ck g i c ei && ck g d c ed && notStar ei && notStar ed
    | none => false
  | .dln a, c, e => match vCall e with
    | some (x, [ea]) => decide (x = ("len" : Str)) && glbB c x && ck g a c ea && notStar ea
    | _ => false
  | .dso a, c, e => match vCall e with
    | some (x, [ea]) => decide (x = ("sorted" : Str)) && glbB c x && ck g a c ea && notStar ea
    | _ => false
  | .lr1 tu _ b, c, e => match vLrg e with
    | some (x, y, [eb]) => decide (x = if tu then ("tuple" : Str) else ("list" : Str)) && decide (y = ("range" : Str)) && glbB c x && glbB c y && ck g b c eb && notStar eb
    | _ => false
  | .lr2 tu _ a b, c, e => match vLrg e with
    | some (x, y, [ea, eb]) => decide (x = if tu then ("tuple" : Str) else ("list" : Str)) && decide (y = ("range" : Str)) && glbB c x && glbB c y && ck g a c ea && ck g b c eb && notStar ea && notStar eb
    | _ => false
  | .fst a b, c, e => match vFst e with
    | some (ea, eb) => ck g a c ea && ck g b c eb
    | none => false
  | .sse a, c, e => match vLrg e with
    | some (x, y, [ea]) => decide (x = ("sorted" : Str)) && decide (y = ("set" : Str)) && glbB c x && glbB c y && ck g a c ea && notStar ea
    | _ => false
  | .att a k, c, e => match vAtt e with
    | some (ea, f) => g.ini.isSome && decide (atNs[k]? = some f) && ck g a c ea
    | none => false
  | .mkI f es, c, e => match vCall e with
    | some (x, l) => decide (g.ini = some (x, f)) && glbB c x && okN x && cks g es c l && !l.isEmpty
    | none => false
  | .mct _ f nm o es, c, e => match vMct e with
    | some (eo, m, l) => decide (m = nm) && decide (g.ms.lookup nm = some f) && !(atNs.contains nm) && ck g o c eo && cks g es c l && decide (l.length < 20)
    | none => false
  | .pop o, c, e => match vMct e with
    | some (eo, m, []) => decide (m = ("pop" : Str)) && ck g o c eo
    | _ => false
  | .oln f a, c, e => match vCall e with
    | some (x, [ea]) => decide (x = ("len" : Str)) && decide (g.ms.lookup ("__len__" : Str) = some f) && glbB c x && ck g a c ea && notStar ea
    | _ => false
def cks (g : Gc) : IEs → Cc → List Expr → Bool
  | .nil, _, l => match l with
    | [] => true
    | _ => false
  | .cons a es, c, l => match l with
    | [] => false
    | e :: l => ck g a c e && notStar e && cks g es c l
def ckO (g : Gc) : IEs → Cc → Option Expr → Bool
  | .nil, _, o => match o with
    | none => true
    | _ => false
  | .cons a es, c, o => match o with
    | none => false
    | some e => ck g a c e && (match es with
      | .nil => true
      | _ => false)
def cki (g : Gc) : II → Cc → Expr → Expr → Bool
  | .seq k a, c, e, _ => ck g a c e && !isSet e
  | .rng es, c, e, _ => match vCall e with
    | some (x, l) => decide (x = ("range" : Str)) && glbB c x && cks g es c l && !l.isEmpty && decide (l.length < 4)
    | none => false
  | .zip es, c, e, tg => match vCall e with
    | some (x, l) => decide (x = ("zip" : Str)) && glbB c x && cks g es c l && decide (l.length = 2) && (vTup tg).isSome
    | none => false
  | .enm es, c, e, tg => match vCall e with
    | some (x, l) => decide (x = ("enumerate" : Str)) && glbB c x && cks g es c l && decide (l.length = 1) && (vTup tg).isSome
    | none => false
end
/-- the context is the one of the check -/
structure XC (X : Cx) (c : Cc) : Prop where
  N : X.N = c.N
  sc : X.env.scope = c.sc
  fn : X.fn = c.fn
section
variable {X : Cx} {c : Cc} {x : Str}
theorem XC.vis (h : XC X c) (q : visB c x = true) : Vis X.env.scope x := by
  unfold visB at q
  unfold Vis
  rw [h.sc]
  split at q
  · exact .inl (by assumption)
  · exact .inr (.inl (by assumption))
  · exact .inr (.inr (by assumption))
  · cases q
theorem XC.loc (h : XC X c) (q : locB c x = true) : L2.Loc X.env.scope x := by
  unfold locB at q
  unfold L2.Loc
  rw [h.sc]
  split at q
  · exact .inl (by assumption)
  · exact .inr (by assumption)
  · cases q
theorem XC.gl (h : XC X c) (q : glbB c x = true) : Gl X x := by
  unfold glbB at q
  unfold Gl Env.kindOf
  rw [h.sc]
  split at q
  · assumption
  · cases q
theorem XC.sto (h : XC X c) (q : stoB c x = true) : X.fn x = true ∨ X.env.scope.names.lookup x = some .local := by
  unfold stoB at q
  rw [h.sc, h.fn]
  rw [Bool.or_eq_true] at q
  rcases q with q | q
  · exact .inl q
  · split at q
    · exact .inr (by assumption)
    · cases q
theorem okN_d (h : okN x = true) : (x == ("__debug__" : Str)) = false := by
  unfold okN at h
  simp only [Bool.and_eq_true, Bool.not_eq_true'] at h
  exact h.1.1.1
theorem okN_c (h : okN x = true) : (x == ("__classdict__" : Str)) = false := by
  unfold okN at h
  simp only [Bool.and_eq_true, Bool.not_eq_true'] at h
  exact h.1.1.2
theorem okN_n (h : okN x = true) : x ≠ ("__name__" : Str) := by
  unfold okN at h
  simp only [Bool.and_eq_true, Bool.not_eq_true'] at h
  intro e
  subst e
  exact absurd h.1.2 (by decide)
theorem okN_e (h : okN x = true) : x ≠ ("" : Str) := by
  unfold okN at h
  simp only [Bool.and_eq_true, Bool.not_eq_true'] at h
  intro e
  subst e
  exact absurd h.2 (by decide)
end
theorem star_cons {env : Env} {e : Expr} {es : List Expr} (h : notStar e = true) : starEach (e :: es) env = (false, eval e env) :: starEach es env := by
  cases e <;> first | rfl | cases h
/-- a list without stars -/
def noStars : List Expr → Bool
  | [] => true
  | e :: es => notStar e && noStars es
theorem star_plain {env : Env} {pos : Pos} : ∀ {es : List Expr}, noStars es = true → (backTo pos (starEach es env)).any (·.1) = false
  | [], _ => rfl
  | e :: es, h => by
    unfold noStars at h
    rw [Bool.and_eq_true] at h
    rw [star_cons h.1]
    show (false || (backTo pos (starEach es env)).any (·.1)) = false
    rw [star_plain h.2]
    rfl
end Wl

set_option Elab.async false
set_option linter.all false
set_option maxRecDepth 100000
set_option maxHeartbeats 1000000
namespace Wl
open PySem PySem.Spec PyProof.Rows L2

/-- what a def promises -/
def spI (K : PySem.W.Frag) (C : Nat → Addr) (cf : CF) (f n : Nat) : Sp := fun vs H Q E => vs.length = n ∧ ∃ (F : Hp) (ρ : List Addr) (M : MH) (ws : List W), Rl K C F H ρ M ∧ VRs K F ρ vs ws ∧
  Pst K C F H ρ (fun c H' => E (.ref (C c)) none H') Q (cf f ws M)
def veTl : List Value := [.type "ValueError", .type "Exception", .type "BaseException", .type "object"]
def nogl : List Str := ["len", "max", "min", "sum", "all", "any", "sorted", "list", "tuple", "str", "int", "bool", "isinstance", "range", "zip", "enumerate", "ValueError", "set"]
/-- what is known of the place -/
structure G (g : Gc) (C : Nat → Addr) (cf : CF) (X : Cx) (Wd : WX) : Prop where
  calm : X.calm = true
  nd : X.N.Nodup
  hu : X.A.units + 65 < cLine
  tk : Takes X Wd
  nog : ∀ x ∈ nogl, X.mg x = none
  cst : ∀ x v, g.gl.lookup x = some v → ∃ u w, X.mg x = some u ∧ RelV w u ∧ ∀ F, DR F w v
  cls : ∀ (k : Nat) (y : Str), g.cs[k]? = some y → y ≠ ("" : Str) → X.mg y = some (.ref (C k))
  rse : ∀ (k : Nat) (y : Str), g.cs[k]? = some y → y ≠ ("" : Str) → 1 ≤ k → PySem.W.excIn X.K (C k) veTl "ValueError.__new__" = true ∧ PySem.W.keepIn X.K (.ref (C k)) = true ∧ Raises X (.ref (C k))
  exm : g.ex = true → ∀ k, 1 ≤ k → k < 6 → PySem.W.exmOne X.K (.ref (C k)) (.ref (C 0)) = some true
  exc : g.ex = true → ∀ k, 1 ≤ k → k < 6 → ExcC X.K (C k)
  kit : g.ex = true → ∀ k k', 1 ≤ k → k < 6 → k' < 6 → PySem.W.kitOne X.K (.ref (C k)) (.ref (C k')) = some (decide (k = k') || decide (k' = 0))
  kiv : g.ex = true → ∀ k, 1 ≤ k → k < 6 → PySem.W.kitOne X.K (.ref (C k)) (.type "ValueError") = some true
  fns : ∀ (f : Nat) (x : Str), g.fs[f]? = some x → ∃ (k : Nat) (a : Addr) (fd : FuncData) (ps : List Str) (n : Nat), Room k X.A ∧ X.mg x = some (.ref a) ∧ PySem.W.keepIn X.K (.ref a) = true ∧ Binds X.K fd ps [] ∧
    FnOk X.prog X.w X.K X.mg X.base (L2.CX X.prog X.w) k a fd ps (spI X.K C cf f n) ∧ ∀ ws M o, cf f ws M = some o → ws.length = n
  sl : g.ini.isSome = true → Cls X.K (C 6) ∧ ∀ f ∈ atNs, NoAttr X.K (C 6) f
  ini : ∀ (f : Nat) (x : Str), g.ini = some (x, f) → ∃ (k : Nat) (a : Addr) (fd : FuncData) (ps : List Str) (n : Nat), Room (k + 1) X.A ∧ X.mg x = some (.ref (C 6)) ∧ Mk X.K (C 6) a ∧ Binds X.K fd ps [] ∧
    FnOk X.prog X.w X.K X.mg X.base (L2.CX X.prog X.w) k a fd ps (spI X.K C cf f n) ∧ ∀ ws M o, cf f ws M = some o → ws.length = n
  mts : ∀ (f : Nat) (m : Str), g.ms.lookup m = some f → g.ini.isSome = true ∧ ∃ (k : Nat) (a : Addr) (fd : FuncData) (ps : List Str) (n : Nat), Room (k + 1) X.A ∧ Meth X.K (C 6) m a ∧ Binds X.K fd ps [] ∧
    FnOk X.prog X.w X.K X.mg X.base (L2.CX X.prog X.w) k a fd ps (spI X.K C cf f n) ∧ ∀ ws M o, cf f ws M = some o → ws.length = n
section
variable {g : Gc} {C : Nat → Addr} {cf : CF} {X : Cx} {Wd : WX} {c : Cc}
theorem G.blk (h : G g C cf X Wd) (s : Shared) (H : Hp) (scope : Scope) (cenv : Env) (fp : List Addr) : G g C cf (X.blk s H scope cenv fp) (fun _ _ _ _ => False) :=
  ⟨h.calm, h.nd, h.hu, takes0, h.nog, h.cst, h.cls, h.rse, h.exm, h.exc, h.kit, h.kiv, h.fns, h.sl, h.ini, h.mts⟩
theorem G.tr (h : G g C cf X Wd) {pn : List (Addr × Obj)} {xe : Value → Shared → Prop} {W : WX} (t : Takes (X.tr pn xe) W) : G g C cf (X.tr pn xe) W :=
  ⟨h.calm, h.nd, h.hu, t, h.nog, h.cst, h.cls, h.rse, h.exm, h.exc, h.kit, h.kiv, h.fns, h.sl, h.ini, h.mts⟩
theorem XC.blk (h : XC X c) (s : Shared) (H : Hp) (scope : Scope) (C' : Addr) (cl : List (Str × Addr)) (fp : List Addr) : XC (X.blk s H scope (compEnvC scope cl C' X.env) fp) (blkCc c scope) :=
  ⟨h.N, by show relS scope X.env.scope = relS scope c.sc; rw [h.sc], rfl⟩
end

/-! readings -/
abbrev EW (C : Nat → Addr) (Wd : WX) (σr : L2.St) : Nat → Hp → Prop := fun c H' => Wd (.ref (C c)) none σr H'
def tI (K : PySem.W.Frag) (C : Nat → Addr) (Wd : WX) (o : Sl → MH → Option Out) : TE := fun σr H Q => ∃ (F : Hp) (ρ : List Addr) (σ : Sl) (M : MH), Rl K C F H ρ M ∧ SR K F ρ σ σr ∧ Pst K C F H ρ (EW C Wd σr) Q (o σ M)
def tA (K : PySem.W.Frag) (C : Nat → Addr) (Wd : WX) (o : Sl → MH → Option OutL) : TA := fun σr H Q => ∃ (F : Hp) (ρ : List Addr) (σ : Sl) (M : MH), Rl K C F H ρ M ∧ SR K F ρ σ σr ∧ PstL K C F H ρ (EW C Wd σr) Q (o σ M)
theorem Pst.conseq {K : PySem.W.Frag} {C : Nat → Addr} {F H : Hp} {ρ : List Addr} {E : Nat → Hp → Prop} {Q Q' : V → Hp → Prop} {o : Option Out} (h : Pst K C F H ρ E Q o) (i : ∀ v H', Q v H' → Q' v H') : Pst K C F H ρ E Q' o := by
  cases o with
  | none => exact h
  | some o =>
    cases o with
    | val w M' => exact fun F2 H2 ρ2 v x R r => i _ _ (h F2 H2 ρ2 v x R r)
    | exc c M' => exact h
theorem PstL.conseq {K : PySem.W.Frag} {C : Nat → Addr} {F H : Hp} {ρ : List Addr} {E : Nat → Hp → Prop} {Q Q' : List V → Hp → Prop} {o : Option OutL} (h : PstL K C F H ρ E Q o) (i : ∀ v H', Q v H' → Q' v H') : PstL K C F H ρ E Q' o := by
  cases o with
  | none => exact h
  | some o =>
    cases o with
    | val w M' => exact fun F2 H2 ρ2 v x R r => i _ _ (h F2 H2 ρ2 v x R r)
    | exc c M' => exact h
theorem tI_tB {K : PySem.W.Frag} {C : Nat → Addr} {Wd : WX} {o : Sl → MH → Option Out} {σr : L2.St} {H : Hp} {Q : Bool → Hp → Prop} (h : tB (tI K C Wd o) σr H Q) : tI K C Wd o σr H fun v H' => ∃ b, v = .bl b ∧ Q b H' := h
theorem dat_d {w : W} {x : PyData} (h : dat w = some x) : w = .d x := by
  cases w <;> cases h
  rfl
theorem VR.int {K : PySem.W.Frag} {F : Hp} {ρ : List Addr} {v : V} {i : Int} (h : VR K F ρ v (.d (.int i))) : v = .int i := by
  have h' : DR F v (.int i) := h
  cases h'
  rfl
theorem VR.bl {K : PySem.W.Frag} {F : Hp} {ρ : List Addr} {v : V} {i : Bool} (h : VR K F ρ v (.d (.bool i))) : v = .bl i := by
  have h' : DR F v (.bool i) := h
  cases h'
  rfl

section
variable (g : Gc) (C : Nat → Addr) (cf : CF)
def SndE (ie : IE) : Prop := ∀ (c : Cc) (e : Expr) (X : Cx) (Wd : WX), ck g ie c e = true → XC X c → G g C cf X Wd →
  PE X e (tI X.K C Wd (ev cf ie)) ∧ (tstOk ie = true → PT X e (tB (tI X.K C Wd (ev cf ie))))
def opB (k : Bool) : BoolOp := if k then .And else .Or
def SndEs (es : IEs) : Prop := ∀ (c : Cc) (l : List Expr) (X : Cx) (Wd : WX), cks g es c l = true → XC X c → G g C cf X Wd →
  PA X l (tA X.K C Wd (evs cf es)) ∧
  (∀ (k : Bool) (pos : Pos), l ≠ [] → PE X (.BoolOp (opB k) l pos) (tI X.K C Wd (evB cf k es)) ∧ (tstOks es = true → PW X (.BoolOp (opB k) l pos) (tB (tI X.K C Wd (evB cf k es))))) ∧
  (∀ (ie : IE) (r : IEs), es = .cons ie r → ∃ e l', l = e :: l' ∧ PE X e (tI X.K C Wd (ev cf ie)) ∧ (tstOk ie = true → PT X e (tB (tI X.K C Wd (ev cf ie)))) ∧ cks g r c l' = true)
end
section
variable {g : Gc} {C : Nat → Addr} {cf : CF}
theorem bopM_eq {k : Bool} {o : BoolOp} (h : bopM k o = true) : o = opB k := by
  cases k <;> cases o <;> first | rfl | cases h
theorem noStars_of : ∀ {es : IEs} {c : Cc} {l : List Expr}, cks g es c l = true → noStars l = true
  | .nil, _, [], _ => rfl
  | .nil, _, _ :: _, h => by cases h
  | .cons a es, _, [], h => by cases h
  | .cons a es, c, e :: l, h => by
    unfold cks at h
    simp only [Bool.and_eq_true] at h
    unfold noStars
    rw [h.1.2, noStars_of h.2]
    rfl
/-- tests of a plain shape -/
theorem plain_test {X : Cx} {e : Expr} {t : TE} (h : PE X e t) (he : match e with
    | .UnaryOp .Not _ _ => False
    | .BoolOp _ _ _ => False
    | .IfExp _ _ _ _ => False
    | .Compare _ _ _ _ => False
    | _ => True) : PT X e (tB t) := by
  refine pt_val h ?_
  intro whole
  cases e with
  | UnaryOp op a p => cases op <;> first | rfl | exact he.elim
  | BoolOp _ _ _ => exact he.elim
  | IfExp _ _ _ _ => exact he.elim
  | Compare _ _ _ _ => exact he.elim
  | _ => rfl
theorem snd_var (i : Nat) : SndE g C cf (.var i) := by
  intro c e X Wd h xc gg
  unfold ck at h
  split at h
  · rename_i x hx
    obtain ⟨p, rfl⟩ := vName_eq hx
    simp only [Bool.and_eq_true, decide_eq_true_eq] at h
    have q : PE X (.Name x p) (tI X.K C Wd (ev cf (.var i))) := by
      refine PE.imp (pe_var (i := i) (by rw [xc.N]; exact h.1.1) (xc.vis h.1.2) (okN_d h.2) (okN_c h.2)) fun σr H Q ⟨F, ρ, σ, M, R, S, q⟩ => ?_
      simp only [ev] at q
      split at q
      · rename_i w hw
        obtain ⟨v, hv, rv⟩ := S.at' i w hw
        exact ⟨v, hv, q.here R rv⟩
      · exact q.elim
    exact ⟨q, fun _ => plain_test q trivial⟩
  · cases h
theorem snd_cst (x : PyData) : SndE g C cf (.cst x) := by
  intro c e X Wd h xc gg
  unfold ck at h
  split at h
  · rename_i k hk
    obtain ⟨j, p, rfl⟩ := vCst_eq hk
    have q : PE X (.Constant k j p) (tI X.K C Wd (ev cf (.cst x))) := by
      cases x <;> cases k <;> first | (cases h; done) | skip
      · exact PE.imp pe_non fun σr H Q ⟨F, ρ, σ, M, R, S, q⟩ => q.here (v := .non) R .non
      · simp only [cstM, beq_iff_eq] at h
        subst h
        exact PE.imp pe_bl fun σr H Q ⟨F, ρ, σ, M, R, S, q⟩ => out_bl R q
      · simp only [cstM, decide_eq_true_eq] at h
        subst h
        exact PE.imp pe_int fun σr H Q ⟨F, ρ, σ, M, R, S, q⟩ => out_int R q
      · simp only [cstM, decide_eq_true_eq] at h
        subst h
        exact PE.imp pe_str fun σr H Q ⟨F, ρ, σ, M, R, S, q⟩ => out_str R q
    exact ⟨q, fun _ => plain_test q trivial⟩
  · cases h
theorem eqS_eq {a b : PyData} (h : eqS a b = true) : a = b := by
  cases a <;> cases b <;> first | (cases h; done) | skip
  · simp only [eqS, decide_eq_true_eq] at h
    rw [h]
  · simp only [eqS, decide_eq_true_eq] at h
    rw [h]
theorem snd_glb (x : Str) (v : PyData) : SndE g C cf (.glb x v) := by
  intro c e X Wd h xc gg
  unfold ck at h
  split at h
  · rename_i y hy
    obtain ⟨p, rfl⟩ := vName_eq hy
    simp only [Bool.and_eq_true, decide_eq_true_eq] at h
    obtain ⟨⟨⟨rfl, h2⟩, h3⟩, h4⟩ := h
    split at h4
    · rename_i z hz
      have ez := eqS_eq h4
      subst ez
      obtain ⟨u, w, m1, m2, m3⟩ := gg.cst x z hz
      have q : PE X (.Name x p) (tI X.K C Wd (ev cf (.glb x z))) := PE.imp (pe_glob (xc.gl h2) m1 m2 (okN_d h3)) fun σr H Q ⟨F, ρ, σ, M, R, S, q⟩ => out_same R (m3 F) q
      exact ⟨q, fun _ => plain_test q trivial⟩
    · cases h4
  · cases h
/-- two parts, one after the other -/
theorem two_parts {K : PySem.W.Frag} {oa ob : Sl → MH → Option Out} {f : W → MH → W → MH → Option Out} {r : R2} {Wd : WX} {σr : L2.St} {F H : Hp} {ρ : List Addr} {σ : Sl} {M : MH} {Q : VK} (R : Rl K C F H ρ M) (S : SR K F ρ σ σr) (q : Pst K C F H ρ (EW C Wd σr) Q (obO (oa σ M) fun v M1 => obO (ob σ M1) fun w M2 => f v M1 w M2))
    (k : ∀ {F H2 : Hp} {ρ : List Addr} {M1 M2 : MH} {v w : V} {x y : W}, Rl K C F H2 ρ M2 → VR K F ρ v x → VR K F ρ w y → Pst K C F H2 ρ (EW C Wd σr) Q (f x M1 y M2) → r v w H2 Q) : tOp r (tI K C Wd oa) (tI K C Wd ob) σr H Q := by
  refine ⟨F, ρ, σ, M, R, S, Pst.conseq (Pst.bind q) fun v1 H1 ⟨F1, ρ1, w1, M1, x1, R1, r1, _, q1⟩ => ?_⟩
  exact ⟨F1, ρ1, σ, M1, R1, S.mono x1, Pst.conseq (Pst.bind q1) fun v2 H2 ⟨F2, ρ2, w2, M2, x2, R2, r2, _, q2⟩ => k R2 (r1.mono x2) r2 q2⟩
theorem one_part {K : PySem.W.Frag} {oa : Sl → MH → Option Out} {f : W → MH → Option Out} {Wd : WX} {σr : L2.St} {F H : Hp} {ρ : List Addr} {σ : Sl} {M : MH} {Q : VK} {Q' : VK} (R : Rl K C F H ρ M) (S : SR K F ρ σ σr) (q : Pst K C F H ρ (EW C Wd σr) Q (obO (oa σ M) f))
    (k : ∀ {F H2 : Hp} {ρ : List Addr} {M1 : MH} {v : V} {x : W}, Rl K C F H2 ρ M1 → VR K F ρ v x → Pst K C F H2 ρ (EW C Wd σr) Q (f x M1) → Q' v H2) : tI K C Wd oa σr H Q' := by
  exact ⟨F, ρ, σ, M, R, S, Pst.conseq (Pst.bind q) fun v1 H1 ⟨F1, ρ1, w1, M1, x1, R1, r1, _, q1⟩ => k R1 r1 q1⟩
theorem snd_bin (op : BO) (a b : IE) (ha : SndE g C cf a) (hb : SndE g C cf b) : SndE g C cf (.bin op a b) := by
  intro c e X Wd h xc gg
  unfold ck at h
  split at h
  · rename_i ea oo eb he
    obtain ⟨p, rfl⟩ := vBin_eq he
    simp only [Bool.and_eq_true] at h
    obtain ⟨r, hr, hv⟩ := bin_r (X := X) (C := C) op oo h.1.1
    have q : PE X (.BinOp ea oo eb p) (tI X.K C Wd (ev cf (.bin op a b))) := by
      refine PE.imp (pe_op hr (ha c ea X Wd h.1.2 xc gg).1 (hb c eb X Wd h.2 xc gg).1) fun σr H Q ⟨F, ρ, σ, M, R, S, q⟩ => ?_
      simp only [ev] at q
      refine two_parts R S q fun {F H2 ρ M1 M2 v w x y} R rv rw q2 => ?_
      split at q2
      · rename_i x' y' e1 e2
        have e1 := dat_d e1
        have e2 := dat_d e2
        subst e1 e2
        cases e3 : binD op x' y' with
        | none =>
          rw [e3] at q2
          exact q2.elim
        | some z =>
          rw [e3] at q2
          exact hv R rv rw e3 q2
      · exact q2.elim
    exact ⟨q, fun _ => plain_test q trivial⟩
  · cases h
theorem snd_neg (a : IE) (ha : SndE g C cf a) : SndE g C cf (.neg a) := by
  intro c e X Wd h xc gg
  unfold ck at h
  split at h
  · rename_i ea he
    obtain ⟨p, rfl⟩ := vNeg_eq he
    have q : PE X (.UnaryOp .USub ea p) (tI X.K C Wd (ev cf (.neg a))) := by
      refine PE.imp (pe_un un_neg (ha c ea X Wd h xc gg).1) fun σr H Q ⟨F, ρ, σ, M, R, S, q⟩ => ?_
      simp only [ev] at q
      refine one_part R S q fun {F H2 ρ M1 v x} R rv q2 => ?_
      split at q2
      · rw [VR.int rv]
        exact ⟨_, rfl, out_int R q2⟩
      · exact q2.elim
    exact ⟨q, fun _ => plain_test q trivial⟩
  · cases h
theorem notMarks {op : CmpOp} {b : Expr} (h : notSet b = true) : behindInMarks op b = false := by
  cases b <;> first | rfl | cases h
theorem retB_out {K : PySem.W.Frag} {F H : Hp} {ρ : List Addr} {M : MH} {E : Nat → Hp → Prop} {Q : V → Hp → Prop} {o : Option Bool} (h : Pst K C F H ρ E Q (retB o M)) : ∃ b, o = some b ∧ Pst K C F H ρ E Q (some (.val (.d (.bool b)) M)) := by
  cases o with
  | none => exact h.elim
  | some b => exact ⟨b, rfl, h⟩
theorem snd_cmp (op : CO) (a b : IE) (ha : SndE g C cf a) (hb : SndE g C cf b) : SndE g C cf (.cmp op a b) := by
  intro c e X Wd h xc gg
  unfold ck at h
  split at h
  · rename_i ea oo eb he
    obtain ⟨p, rfl, hset⟩ := vCmp_eq he
    simp only [Bool.and_eq_true] at h
    obtain ⟨r, hr, hv⟩ := cmp_r (X := X) (C := C) gg.hu op oo h.1.1
    have i : ∀ σr H Q, tI X.K C Wd (ev cf (.cmp op a b)) σr H Q → tOp r (tI X.K C Wd (ev cf a)) (tI X.K C Wd (ev cf b)) σr H Q := fun σr H Q ⟨F, ρ, σ, M, R, S, q⟩ => by
      simp only [ev] at q
      refine two_parts R S q fun {F H2 ρ M1 M2 v w x y} R rv rw q2 => ?_
      obtain ⟨k, e1, q3⟩ := retB_out q2
      exact hv R rv rw e1 (out_bl R q3)
    have pa := (ha c ea X Wd h.1.2 xc gg).1
    have pb := (hb c eb X Wd h.2 xc gg).1
    exact ⟨PE.imp (pe_cmpR hr pa pb (notMarks hset)) i, fun _ => PT.imp (pt_cmpR hr pa pb (notMarks hset)) fun σr H Q q => i σr H _ q⟩
  · cases h
theorem snd_chn (o p : CO) (a b d : IE) (ha : SndE g C cf a) (hb : SndE g C cf b) (hd : SndE g C cf d) : SndE g C cf (.chn o p a b d) := by
  intro c e X Wd h xc gg
  unfold ck at h
  split at h
  · rename_i ea o' p' eb ed he
    obtain ⟨pos, rfl, hset⟩ := vChn_eq he
    simp only [Bool.and_eq_true] at h
    obtain ⟨⟨⟨⟨h1, h2⟩, h3⟩, h4⟩, h5⟩ := h
    obtain ⟨r, hr, hv⟩ := cmp_r (X := X) (C := C) gg.hu o o' h1
    obtain ⟨r', hr', hv'⟩ := cmp_r (X := X) (C := C) gg.hu p p' h2
    have i : ∀ σr H Q, tI X.K C Wd (ev cf (.chn o p a b d)) σr H Q → tChain r r' (tI X.K C Wd (ev cf a)) (tI X.K C Wd (ev cf b)) (tI X.K C Wd (ev cf d)) σr H Q := fun σr H Q ⟨F, ρ, σ, M, R, S, q⟩ => by
      simp only [ev] at q
      refine ⟨F, ρ, σ, M, R, S, Pst.conseq (Pst.bind q) fun v1 H1 ⟨F1, ρ1, w1, M1, x1, R1, r1, _, q1⟩ => ?_⟩
      refine ⟨F1, ρ1, σ, M1, R1, S.mono x1, Pst.conseq (Pst.bind q1) fun v2 H2 ⟨F2, ρ2, w2, M2, x2, R2, r2, _, q2⟩ => ?_⟩
      split at q2
      · rename_i hk
        refine hv R2 (r1.mono x2) r2 hk ⟨true, rfl, ?_⟩
        rw [if_pos rfl]
        refine ⟨F2, ρ2, σ, M2, R2, (S.mono x1).mono x2, Pst.conseq (Pst.bind q2) fun v3 H3 ⟨F3, ρ3, w3, M3, x3, R3, r3, _, q3⟩ => ?_⟩
        obtain ⟨k, e1, q4⟩ := retB_out q3
        exact hv' R3 (r2.mono x3) r3 e1 (out_bl R3 q4)
      · rename_i hk
        refine hv R2 (r1.mono x2) r2 hk ⟨false, rfl, ?_⟩
        rw [if_neg Bool.false_ne_true]
        exact out_bl R2 q2
      · exact q2.elim
    have pa := (ha c ea X Wd h3 xc gg).1
    have pb := (hb c eb X Wd h4 xc gg).1
    have pd := (hd c ed X Wd h5 xc gg).1
    have hm : lastMarks [o', p'] [eb, ed] = false := notMarks hset
    exact ⟨PE.imp (pe_chain hr hr' pa pb pd hm) i, fun _ => PT.imp (pt_chain hr hr' pa pb pd hm) fun σr H Q q => i σr H _ q⟩
  · cases h
theorem snd_bop (k : Bool) (es : IEs) (hs : SndEs g C cf es) : SndE g C cf (.bop k es) := by
  intro c e X Wd h xc gg
  unfold ck at h
  split at h
  · rename_i o l he
    obtain ⟨p, rfl⟩ := vBop_eq he
    simp only [Bool.and_eq_true] at h
    have eo := bopM_eq h.1.1
    subst eo
    have hl : l ≠ [] := by
      intro z
      subst z
      exact absurd h.2 (by decide)
    obtain ⟨q1, q2⟩ := (hs c l X Wd h.1.2 xc gg).2.1 k p hl
    refine ⟨PE.imp q1 fun σr H Q q => by simpa only [tI, ev] using q, fun ht => ?_⟩
    exact PT.imp (q2 (by simpa only [tstOk] using ht)).pt fun σr H Q q => by simpa only [tB, tI, ev] using q
  · cases h
theorem snd_not (a : IE) (ha : SndE g C cf a) : SndE g C cf (.not a) := by
  intro c e X Wd h xc gg
  unfold ck at h
  split at h
  · rename_i ea he
    obtain ⟨p, rfl⟩ := vNot_eq he
    obtain ⟨pa, pt⟩ := ha c ea X Wd h xc gg
    refine ⟨PE.imp (pe_not pa) fun σr H Q ⟨F, ρ, σ, M, R, S, q⟩ => ?_, fun ht => ?_⟩
    · simp only [ev] at q
      refine one_part R S q fun {F H2 ρ M1 v x} R rv q2 => ?_
      split at q2
      · rw [VR.bl rv]
        exact ⟨_, rfl, out_bl R q2⟩
      · exact q2.elim
    · refine PT.imp (pt_not (pt (by simpa only [tstOk] using ht))) fun σr H Q ⟨F, ρ, σ, M, R, S, q⟩ => ?_
      show tB (tI X.K C Wd (ev cf a)) σr H _
      simp only [ev] at q
      refine one_part (Q' := fun x H1 => ∃ c, x = .bl c ∧ Q (!c) H1) R S q fun {F H2 ρ M1 v x} R rv q2 => ?_
      split at q2
      · rw [VR.bl rv]
        obtain ⟨b, e1, q3⟩ := out_bl R q2
        cases e1
        exact ⟨_, rfl, q3⟩
      · exact q2.elim
  · cases h
theorem snd_ife (t a b : IE) (ht : SndE g C cf t) (ha : SndE g C cf a) (hb : SndE g C cf b) : SndE g C cf (.ife t a b) := by
  intro c e X Wd h xc gg
  unfold ck at h
  split at h
  · rename_i et ea eb he
    obtain ⟨p, rfl⟩ := vIfe_eq he
    simp only [Bool.and_eq_true] at h
    obtain ⟨⟨⟨h1, h2⟩, h3⟩, h4⟩ := h
    refine ⟨PE.imp (pe_ifExp ((ht c et X Wd h1 xc gg).2 h2) (ha c ea X Wd h3 xc gg).1 (hb c eb X Wd h4 xc gg).1) fun σr H Q ⟨F, ρ, σ, M, R, S, q⟩ => ?_, fun hf => by cases hf⟩
    simp only [ev] at q
    refine ⟨F, ρ, σ, M, R, S, Pst.conseq (Pst.bind q) fun v1 H1 ⟨F1, ρ1, w1, M1, x1, R1, r1, _, q1⟩ => ?_⟩
    split at q1
    · exact ⟨true, VR.bl r1, iteT ⟨F1, ρ1, σ, M1, R1, S.mono x1, q1⟩⟩
    · exact ⟨false, VR.bl r1, iteF ⟨F1, ρ1, σ, M1, R1, S.mono x1, q1⟩⟩
    · exact q1.elim
  · cases h
end
end Wl

set_option Elab.async false
set_option linter.all false
set_option maxRecDepth 100000
set_option maxHeartbeats 1000000
namespace Wl
open PySem PySem.Spec PyProof.Rows L2
section
variable {g : Gc} {C : Nat → Addr} {cf : CF}
theorem parts {K : PySem.W.Frag} {oa : Sl → MH → Option OutL} {f : List W → MH → Option Out} {Wd : WX} {σr : L2.St} {F H : Hp} {ρ : List Addr} {σ : Sl} {M : MH} {Q : VK} {Q' : List V → Hp → Prop} (R : Rl K C F H ρ M) (S : SR K F ρ σ σr) (q : Pst K C F H ρ (EW C Wd σr) Q (obL (oa σ M) f))
    (k : ∀ {F H2 : Hp} {ρ : List Addr} {M1 : MH} {vs : List V} {ws : List W}, Rl K C F H2 ρ M1 → SR K F ρ σ σr → VRs K F ρ vs ws → Pst K C F H2 ρ (EW C Wd σr) Q (f ws M1) → Q' vs H2) : tA K C Wd oa σr H Q' :=
  ⟨F, ρ, σ, M, R, S, PstL.conseq (PstL.bind q) fun v1 H1 ⟨F1, ρ1, w1, M1, x1, R1, r1, _, q1⟩ => k R1 (S.mono x1) r1 q1⟩
theorem snd_lst (mu : Bool) (es : IEs) (hs : SndEs g C cf es) : SndE g C cf (.lst mu es) := by
  intro c e X Wd h xc gg
  unfold ck at h
  split at h
  · rename_i l he
    obtain ⟨p, rfl⟩ := vLst_eq he
    have q : PE X (.List l p) (tI X.K C Wd (ev cf (.lst mu es))) := by
      refine PE.imp (pe_lst (hs c l X Wd h xc gg).1) fun σr H Q ⟨F, ρ, σ, M, R, S, q⟩ => ?_
      simp only [ev] at q
      refine parts (Q' := fun xs H1 => xs.length ≤ sizeLine ∧ ∀ p, H1 p = none → Q (.ref p) (upd H1 p (.lst xs))) R S q fun {F H2 ρ M1 vs ws} R _ rs q2 => ?_
      cases mu with
      | true =>
        simp only at q2
        split at q2
        · rename_i hc
          refine ⟨capS (by rw [rs.length]; exact hc), fun p hp => ?_⟩
          obtain ⟨R', e, r⟩ := R.newM hp rs
          exact q2.step e R' r
        · exact q2.elim
      | false =>
        simp only at q2
        split at q2
        · rename_i xs hx
          split at q2
          · rename_i hc
            have d := rs.dats hx
            exact ⟨capS (by rw [d.length]; exact hc), out_lst R d q2⟩
          · exact q2.elim
        · exact q2.elim
    exact ⟨q, fun _ => plain_test q trivial⟩
  · cases h
theorem snd_tup (es : IEs) (hs : SndEs g C cf es) : SndE g C cf (.tup es) := by
  intro c e X Wd h xc gg
  unfold ck at h
  split at h
  · rename_i l he
    obtain ⟨k, p, rfl⟩ := vTup_eq he
    have q : PE X (.Tuple l k p) (tI X.K C Wd (ev cf (.tup es))) := by
      refine PE.imp (pe_tup (hs c l X Wd h xc gg).1) fun σr H Q ⟨F, ρ, σ, M, R, S, q⟩ => ?_
      simp only [ev] at q
      refine parts (Q' := fun xs H1 => xs.length ≤ sizeLine ∧ ∀ p, H1 p = none → Q (.ref p) (upd H1 p (.tup xs))) R S q fun {F H2 ρ M1 vs ws} R _ rs q2 => ?_
      split at q2
      · rename_i xs hx
        split at q2
        · rename_i hc
          have d := rs.dats hx
          exact ⟨capS (by rw [d.length]; exact hc), out_tup R d q2⟩
        · exact q2.elim
      · exact q2.elim
    exact ⟨q, fun _ => plain_test q trivial⟩
  · cases h
theorem plainIx {b : Expr} (h : isSli b = false) : PlainIx b := by
  intro o i
  cases b <;> first | rfl | cases h
theorem snd_sub (a i : IE) (ha : SndE g C cf a) (hi : SndE g C cf i) : SndE g C cf (.sub a i) := by
  intro c e X Wd h xc gg
  unfold ck at h
  split at h
  · rename_i ea ei he
    obtain ⟨p, rfl, hs⟩ := vSub_eq he
    simp only [Bool.and_eq_true] at h
    obtain ⟨r, hr, hv⟩ := sub_r (X := X) (C := C)
    have q : PE X (.Subscript ea ei p) (tI X.K C Wd (ev cf (.sub a i))) := by
      refine PE.imp (pe_ix hr (ha c ea X Wd h.1 xc gg).1 (hi c ei X Wd h.2 xc gg).1 (plainIx hs)) fun σr H Q ⟨F, ρ, σ, M, R, S, q⟩ => ?_
      simp only [ev] at q
      refine two_parts R S q fun {F H2 ρ M1 M2 v w x y} R rv rw q2 => ?_
      split at q2
      · exact hv R rv (VR.int rw) q2
      · exact q2.elim
    exact ⟨q, fun _ => plain_test q trivial⟩
  · cases h
def tPt (K : PySem.W.Frag) (C : Nat → Addr) (cf : CF) (Wd : WX) : IEs → TO
  | .nil => tNoPart
  | .cons ie _ => tPart (tI K C Wd (ev cf ie))
/-- a part of a slice that may be left out -/
theorem snd_part {es : IEs} {c : Cc} {o : Option Expr} {X : Cx} {Wd : WX} (hs : SndEs g C cf es) (h : ckO g es c o = true) (hst : ∀ e, o = some e → cks g es c [e] = true) (xc : XC X c) (gg : G g C cf X Wd) :
    L2.PO X o (tPt X.K C cf Wd es) := by
  cases es with
  | nil =>
    unfold ckO at h
    split at h
    · exact po_none
    · cases h
  | cons ie r =>
    unfold ckO at h
    cases o with
    | none => cases h
    | some e =>
      obtain ⟨e', l', he, q, _⟩ := (hs c [e] X Wd (hst e rfl) xc gg).2.2 ie r rfl
      cases he
      exact po_some q
theorem ckO_s {es : IEs} {c : Cc} {o : Option Expr} (h : ckO g es c o = true) (hn : ∀ e, o = some e → notStar e = true) : ∀ e, o = some e → cks g es c [e] = true := by
  intro e he
  subst he
  cases es with
  | nil => cases h
  | cons ie r =>
    unfold ckO at h
    simp only [Bool.and_eq_true] at h
    cases r with
    | nil =>
      unfold cks
      simp only [Bool.and_eq_true]
      exact ⟨⟨h.1, hn e rfl⟩, by unfold cks; rfl⟩
    | cons _ _ => exact absurd h.2 (by simp)
theorem ev_notStar {ie : IE} {c : Cc} {e : Expr} (h : ck g ie c e = true) : notStar e = true := by
  cases e with
  | Starred _ _ =>
    cases ie <;> simp [ck, vName, vCst, vBin, vNeg, vNot, vCmp, vChn, vBop, vIfe, vLst, vTup, vSub, vSli, vRev, vCall, vMth, vLc, isDct, vGet, vLrg, vFst, vAtt, vMct] at h
  | _ => rfl
theorem ckO_ns {es : IEs} {c : Cc} {o : Option Expr} (h : ckO g es c o = true) : ∀ e, o = some e → notStar e = true := by
  intro e he
  subst he
  cases es with
  | nil => cases h
  | cons ie r =>
    unfold ckO at h
    simp only [Bool.and_eq_true] at h
    exact ev_notStar h.1
/-- the value of a part -/
theorem part_val {K : PySem.W.Frag} {es : IEs} {Wd : WX} {σr : L2.St} {F H : Hp} {ρ : List Addr} {σ : Sl} {M : MH} {Q : VK} {f : Option Int → MH → Option Out} {Q' : Option Int → Hp → Prop} (R : Rl K C F H ρ M) (S : SR K F ρ σ σr)
    (q : Pst K C F H ρ (EW C Wd σr) Q (obP (evO cf es σ M) f))
    (k : ∀ {F' H2 : Hp} {ρ' : List Addr} {M1 : MH} {i : Option Int}, Ext F H ρ F' H2 ρ' → Rl K C F' H2 ρ' M1 → SR K F' ρ' σ σr → Pst K C F' H2 ρ' (EW C Wd σr) Q (f i M1) → Q' i H2) : tPt K C cf Wd es σr H Q' := by
  cases es with
  | nil =>
    simp only [evO, obP] at q
    exact k (i := none) (.refl F H ρ) R S q
  | cons ie r =>
    simp only [evO] at q
    show tI K C Wd (ev cf ie) σr H fun x H1 => ∃ i, x = .int i ∧ Q' (some i) H1
    refine ⟨F, ρ, σ, M, R, S, ?_⟩
    split at q
    · rename_i i M1 ho
      rw [ho]
      intro F' H' ρ' v x R' r
      exact ⟨i, VR.int r, k (i := some i) x R' (S.mono x) (Pst.mono x q)⟩
    · exact q.elim
    · rename_i ho
      rw [ho]
      exact q
    · exact q.elim
theorem snd_sli (a : IE) (lo hi : IEs) (ha : SndE g C cf a) (hl : SndEs g C cf lo) (hh : SndEs g C cf hi) : SndE g C cf (.sli a lo hi) := by
  intro c e X Wd h xc gg
  unfold ck at h
  split at h
  · rename_i ea l u he
    obtain ⟨p, p', rfl⟩ := vSli_eq he
    simp only [Bool.and_eq_true] at h
    obtain ⟨⟨h1, h2⟩, h3⟩ := h
    obtain ⟨r, hr, hv⟩ := sli_r (X := X) (C := C)
    have q : PE X (.Subscript ea (.Slice l u none p) p') (tI X.K C Wd (ev cf (.sli a lo hi))) := by
      refine PE.imp (pe_slice hr (ha c ea X Wd h1 xc gg).1 (snd_part hl h2 (ckO_s h2 (ckO_ns h2)) xc gg) (snd_part hh h3 (ckO_s h3 (ckO_ns h3)) xc gg)) fun σr H Q ⟨F, ρ, σ, M, R, S, q⟩ => ?_
      simp only [ev] at q
      refine ⟨F, ρ, σ, M, R, S, Pst.conseq (Pst.bind q) fun v1 H1 ⟨F1, ρ1, w1, M1, x1, R1, r1, _, q1⟩ => ?_⟩
      refine part_val R1 (S.mono x1) q1 fun {F2 H2 ρ2 M2 i} x2 R2 S2 q2 => ?_
      refine part_val R2 S2 q2 fun {F3 H3 ρ3 M3 j} x3 R3 S3 q3 => ?_
      split at q3
      · rename_i x hx
        exact hv R3 ((r1.mono x2).mono x3) hx q3
      · exact q3.elim
    exact ⟨q, fun _ => plain_test q trivial⟩
  · cases h
end
end Wl

set_option Elab.async false
set_option linter.all false
set_option maxRecDepth 100000
set_option maxHeartbeats 1000000
namespace Wl
open PySem PySem.Spec PyProof.Rows L2
section
variable {g : Gc} {C : Nat → Addr} {cf : CF}
theorem snd_rev (a : IE) (ha : SndE g C cf a) : SndE g C cf (.rev a) := by
  intro c e X Wd h xc gg
  unfold ck at h
  split at h
  · rename_i ea he
    obtain ⟨k, p1, p2, p3, p4, rfl⟩ := vRev_eq he
    have q : PE X (.Subscript ea (.Slice none none (some (.UnaryOp .USub (.Constant (.int 1) k p1) p2)) p3) p4) (tI X.K C Wd (ev cf (.rev a))) := by
      refine PE.imp (pe_revA (ha c ea X Wd h xc gg).1) fun σr H Q ⟨F, ρ, σ, M, R, S, q⟩ => ?_
      simp only [ev] at q
      refine one_part (Q' := fun x H1 => (∃ a xs, x = .ref a ∧ SqL X.K H1 a xs ∧ ∀ p, H1 p = none → Q (.ref p) (upd H1 p (.lst xs.reverse))) ∨ (∃ a xs, x = .ref a ∧ SqT X.K H1 a xs ∧ ∀ p, H1 p = none → Q (.ref p) (upd H1 p (.tup xs.reverse)))) R S q fun {F H2 ρ M1 v x} R rv q2 => ?_
      split at q2
      · rename_i xs hx
        obtain ⟨a, us, rfl, s, d⟩ := rv.viewL R hx
        exact .inl ⟨a, us, rfl, s, out_lst R d.reverse q2⟩
      · rename_i xs hx
        obtain ⟨a, us, rfl, s, d, _⟩ := rv.viewT R hx
        exact .inr ⟨a, us, rfl, s, out_tup R d.reverse q2⟩
      · exact q2.elim
    exact ⟨q, fun _ => plain_test q trivial⟩
  · cases h
/-! calls of defs -/
theorem dats_ws : ∀ {ws : List W} {xs : List PyData}, dats ws = some xs → ws = xs.map .d
  | [], _, h => by
    cases h
    rfl
  | .d x :: r, _, h => by
    unfold dats at h
    cases z : dats r with
    | none =>
      rw [z] at h
      cases h
    | some ys =>
      rw [z] at h
      cases h
      rw [dats_ws z]
      rfl
  | .m _ :: _, _, h => by cases h
  | .s _ :: _, _, h => by cases h
theorem call_sp {K : PySem.W.Frag} {mode f n : Nat} {F H : Hp} {ρ : List Addr} {M : MH} {vs : List V} {ws : List W} {Wd : WX} {σr : L2.St} {Q : VK} (hn : ∀ ws M o, cf f ws M = some o → ws.length = n) (R : Rl K C F H ρ M) (rs : VRs K F ρ vs ws)
    (q : Pst K C F H ρ (EW C Wd σr) Q (callW cf mode f ws M)) : spI K C cf f n vs H Q (WE Wd σr) := by
  have hlen : ∀ M o, cf f ws M = some o → vs.length = n := fun M o e => by
    rw [rs.length]
    exact hn ws M o e
  match mode, q with
  | 0, q =>
    unfold callW at q
    simp only at q
    split at q
    · exact q.elim
    · rename_i xs hx
      have ew := dats_ws hx
      have R0 : Rl K C F H [] [] := ⟨R.sub, rfl, .nil, fun a ha => absurd ha (by simp), fun n a o e _ => by simp at e⟩
      have rs0 : VRs K F [] vs ws := by
        rw [ew]
        exact VRs.of_data (rs.dats hx)
      split at q
      · rename_i x N ho
        refine ⟨hlen _ _ ho, F, [], [], ws, R0, rs0, ?_⟩
        rw [ho]
        intro F' H' ρ' v e R' r
        obtain ⟨R2, e2⟩ := R.pure e R'
        exact q.step e2 R2 r
      · rename_i cc N ho
        refine ⟨hlen _ _ ho, F, [], [], ws, R0, rs0, ?_⟩
        rw [ho]
        intro F' H' ρ' e R'
        obtain ⟨R2, e2⟩ := R.pure e R'
        exact q F' H' ρ e2 R2
      · exact q.elim
  | 1, q =>
    unfold callW at q
    simp only at q
    split at q
    · rename_i w N ho
      refine ⟨hlen _ _ ho, F, ρ, M, ws, R, rs, ?_⟩
      rw [ho]
      split at q
      · rename_i hc
        rw [Bool.and_eq_true] at hc
        intro F' H' ρ' v e R' r
        obtain ⟨R2, e2⟩ := Rl.drop R.len e R' hc.2
        refine q.step e2 R2 ?_
        obtain ⟨l, el, _⟩ := e.p
        rw [el] at r
        exact r.cut R.len hc.1
      · exact q.elim
    · rename_i cc N ho
      refine ⟨hlen _ _ ho, F, ρ, M, ws, R, rs, ?_⟩
      rw [ho]
      split at q
      · rename_i hc
        intro F' H' ρ' e R'
        obtain ⟨R2, e2⟩ := Rl.drop R.len e R' hc
        exact q F' H' ρ e2 R2
      · exact q.elim
    · exact q.elim
  | n + 2, q =>
    unfold callW at q
    simp only at q
    cases ho : cf f ws M with
    | none =>
      rw [ho] at q
      exact q.elim
    | some o => exact ⟨hlen _ _ ho, F, ρ, M, ws, R, rs, q⟩
theorem pe_callS0 {X : Cx} {CX : CXT} {k : Nat} {f : Addr} {fd : FuncData} {ps : List Str} {sp : Sp} {E : L2.St → XK} {x : Str} {p pos : Pos} (F : FnOk X.prog X.w X.K X.mg X.base CX k f fd ps sp) (hr : Room k X.A) (hg : Gl X x) (hm : X.mg x = some (.ref f)) (hk : PySem.W.keepIn X.K (.ref f) = true)
    (hb : Binds X.K fd ps []) (hx : ∀ σ, PassesAt CX X σ (E σ)) (hdb : (x == ("__debug__" : Str)) = false) : PE X (.Call (.Name x p) [] [] pos) (tCallS sp E tNil) := by
  refine ⟨fun pins s σ H Q I h => ?_⟩
  refine wpAny_Call_Name_kw (ld_glob I hg hm ?_ hdb)
  exact PySem.W.callWith_K0 I.kIn hk (run_fnS (us := []) F hr hb (hx σ) I .nil h)
theorem snd_call (mode f : Nat) (es : IEs) (hs : SndEs g C cf es) : SndE g C cf (.call mode f es) := by
  intro c e X Wd h xc gg
  unfold ck at h
  split at h
  · rename_i x l he
    obtain ⟨p, p', rfl⟩ := vCall_eq he
    simp only [Bool.and_eq_true, decide_eq_true_eq] at h
    obtain ⟨⟨⟨h1, h2⟩, h3⟩, h4⟩ := h
    obtain ⟨k, a, fd, ps, n, hroom, hm, hk, hb, F, hn⟩ := gg.fns f x h1
    have q : PE X (.Call (.Name x p) l [] p') (tI X.K C Wd (ev cf (.call mode f es))) := by
      have pa := (hs c l X Wd h4 xc gg).1
      have ns := noStars_of h4
      have i : ∀ σr H Q, tI X.K C Wd (ev cf (.call mode f es)) σr H Q → tCallS (spI X.K C cf f n) (WE Wd) (tA X.K C Wd (evs cf es)) σr H Q := fun σr H Q ⟨F, ρ, σ, M, R, S, q⟩ => by
        simp only [ev] at q
        exact parts (Q' := fun vs H1 => spI X.K C cf f n vs H1 Q (WE Wd σr)) R S q fun {F H2 ρ M1 vs ws} R _ rs q2 => call_sp hn R rs q2
      cases l with
      | nil =>
        refine PE.imp (pe_callS0 (E := WE Wd) F hroom (xc.gl h2) hm hk hb (fun σ => passAt gg.tk σ) (okN_d h3)) fun σr H Q q => ?_
        have q2 := i σr H Q q
        have ees : es = .nil := by
          cases es with
          | nil => rfl
          | cons _ _ => cases h4
        subst ees
        obtain ⟨F, ρ, σ, M, R, S, q3⟩ := q2
        simp only [evs] at q3
        exact q3 F H ρ [] (.refl F H ρ) R .nil
      | cons e l =>
        unfold noStars at ns
        rw [Bool.and_eq_true] at ns
        exact PE.imp (pe_callS (E := WE Wd) F hroom (xc.gl h2) hm hk hb (fun σ => passAt gg.tk σ) pa (okN_d h3) (star_cons ns.1) (star_plain ns.2)) i
    exact ⟨q, fun _ => plain_test q trivial⟩
  · cases h
/-! calls of what is built in -/
theorem blt_ok (b : BF) : (bltNm b ∈ nogl ∧ bltNm b ≠ "__name__" ∧ (bltNm b == ("__debug__" : Str)) = false) ∧ bootBuiltins (bltNm b) = some (bltF b) := by
  cases b <;> exact ⟨by decide +kernel, by decide +kernel⟩
theorem snd_blt (b : BF) (mu : Bool) (es : IEs) (hs : SndEs g C cf es) : SndE g C cf (.blt b mu es) := by
  intro c e X Wd h xc gg
  unfold ck at h
  split at h
  · rename_i x l he
    obtain ⟨p, p', rfl⟩ := vCall_eq he
    simp only [Bool.and_eq_true, decide_eq_true_eq] at h
    obtain ⟨⟨⟨rfl, h2⟩, h4⟩, h5⟩ := h
    obtain ⟨r, hr, hv⟩ := blt_r (X := X) (C := C) gg.calm gg.hu b
    obtain ⟨⟨b1, b2, b3⟩, b4⟩ := blt_ok b
    have pa := (hs c l X Wd h4 xc gg).1
    have ns := noStars_of h4
    have q : PE X (.Call (.Name (bltNm b) p) l [] p') (tI X.K C Wd (ev cf (.blt b mu es))) := by
      have i : ∀ σr H Q, tI X.K C Wd (ev cf (.blt b mu es)) σr H Q → tCB r (tA X.K C Wd (evs cf es)) σr H Q := fun σr H Q ⟨F, ρ, σ, M, R, S, q⟩ => by
        simp only [ev] at q
        refine parts (Q' := fun vs H1 => r vs H1 Q) R S q fun {F H2 ρ M1 vs ws} R _ rs q2 => ?_
        split at q2
        · rename_i xs hx
          split at q2
          · rename_i zs hz
            exact hv R rs hx hz q2
          · rename_i z hnl hz
            refine hv (E := EW C Wd σr) (mu := mu) R rs hx hz ?_
            cases z with
            | list zs => exact absurd rfl (hnl zs)
            | _ => exact q2
          · exact q2.elim
        · exact q2.elim
      cases l with
      | nil => exact absurd h5 (by decide)
      | cons e l =>
        unfold noStars at ns
        rw [Bool.and_eq_true] at ns
        have hg := xc.gl h2
        have hm := gg.nog _ b1
        cases b <;> first
          | exact PE.imp (pe_callB hr hg hm b4 pa b2 b3 (star_cons ns.1) (star_plain ns.2)) i
          | exact PE.imp (pe_callTy hr hg hm b4 pa b2 b3 (star_cons ns.1) (star_plain ns.2)) i
    exact ⟨q, fun _ => plain_test q trivial⟩
  · cases h
theorem isi_ok (t : IT) (h : ∀ k, t ≠ .own k) : (itNm t ∈ nogl ∧ itNm t ≠ "__name__" ∧ (itNm t == ("__debug__" : Str)) = false) ∧ bootBuiltins (itNm t) = some (.type (itName t)) := by
  cases t <;> first
    | exact ⟨by decide +kernel, by decide +kernel⟩
    | exact absurd rfl (h _)
theorem isiW_m {t : IT} {n : Nat} {M : MH} {b : Bool} (h : isiW t (.m n) M = some b) : ∃ cc, M[n]? = some (.exc cc) ∧ isiE t cc = some b := by
  unfold isiW at h
  simp only at h
  split at h
  · exact ⟨_, by assumption, h⟩
  · cases h
/-- the class as a value -/
theorem isi_cls {c : Cc} {X : Cx} {Wd : WX} {t : IT} {y : Str} {py : Pos} (xc : XC X c) (gg : G g C cf X Wd) (h7 : glbB c y = true) (h8 : okN y = true) (h9 : (match t with
        | .own k => g.ex && decide (g.cs[k]? = some y)
        | .verr => g.ex && decide (y = itNm .verr)
        | t => decide (y = itNm t)) = true) :
    ∃ (cv : V), PE X (.Name y py) (tC cv) ∧ (∀ {F H : Hp} {ρ : List Addr} {M : MH} {v : V} {w : W} {b : Bool} {Q : VK}, Rl X.K C F H ρ M → VR X.K F ρ v w → isiW t w M = some b → Q (.bl b) H → (fun xs H Q => rIsi X.K xs H Q ∨ rIsX X.K xs H Q) [v, cv] H Q) := by
  have builtin : (∀ k, t ≠ .own k) → y = itNm t → (t = .verr → g.ex = true) → ∃ (cv : V), PE X (.Name y py) (tC cv) ∧ (∀ {F H : Hp} {ρ : List Addr} {M : MH} {v : V} {w : W} {b : Bool} {Q : VK}, Rl X.K C F H ρ M → VR X.K F ρ v w → isiW t w M = some b → Q (.bl b) H → (fun xs H Q => rIsi X.K xs H Q ∨ rIsX X.K xs H Q) [v, cv] H Q) := fun ht ey hex => by
    subst ey
    obtain ⟨⟨b1, b2, b3⟩, b4⟩ := isi_ok t ht
    refine ⟨.ty (itName t), pe_bltn (v := .ty (itName t)) (xc.gl h7) (gg.nog _ b1) b4 rfl b2 b3, fun {F H ρ M v w b Q} R rv e q => ?_⟩
    cases w with
    | d x => exact .inl ⟨v, .ty (itName t), .type (tyName x), .type (itName t), b, rfl, .ty _, DR.ty R.sub rv, isi_kit e, q⟩
    | s ns => cases e
    | m n =>
      obtain ⟨a', h1', rfl⟩ := rv
      obtain ⟨cc, hM, e⟩ := isiW_m e
      cases t with
      | verr =>
        simp only [isiE] at e
        split at e
        · rename_i hc
          cases e
          obtain ⟨g1, g2⟩ := R.ob n a' _ h1' hM
          exact .inr ⟨a', C cc, .ty "ValueError", .type "ValueError", _, rfl, g2, gg.exc (hex rfl) cc hc.1 hc.2, fun u r => r, gg.kiv (hex rfl) cc hc.1 hc.2, q⟩
        · cases e
      | own k => exact absurd rfl (ht k)
      | _ => cases e
  cases t with
  | own k =>
    simp only [Bool.and_eq_true, decide_eq_true_eq] at h9
    have hm := gg.cls k y h9.2 (okN_e h8)
    refine ⟨.ref (C k), pe_glob (xc.gl h7) hm rfl (okN_d h8), fun {F H ρ M v w b Q} R rv e q => ?_⟩
    cases w with
    | d x => cases x <;> cases e
    | s ns => cases e
    | m n =>
      obtain ⟨a', h1', rfl⟩ := rv
      obtain ⟨cc, hM, e⟩ := isiW_m e
      simp only [isiE] at e
      split at e
      · rename_i hc
        cases e
        obtain ⟨g1, g2⟩ := R.ob n a' _ h1' hM
        exact .inr ⟨a', C cc, .ref (C k), .ref (C k), _, rfl, g2, gg.exc h9.1 cc hc.1 hc.2.1, fun u r => r, gg.kit h9.1 cc k hc.1 hc.2.1 hc.2.2, q⟩
      · cases e
  | verr =>
    simp only [Bool.and_eq_true, decide_eq_true_eq] at h9
    exact builtin (fun k z => nomatch z) h9.2 fun _ => h9.1
  | int =>
    simp only [decide_eq_true_eq] at h9
    exact builtin (fun k z => nomatch z) h9 (fun z => nomatch z)
  | bool =>
    simp only [decide_eq_true_eq] at h9
    exact builtin (fun k z => nomatch z) h9 (fun z => nomatch z)
  | list =>
    simp only [decide_eq_true_eq] at h9
    exact builtin (fun k z => nomatch z) h9 (fun z => nomatch z)
  | tuple =>
    simp only [decide_eq_true_eq] at h9
    exact builtin (fun k z => nomatch z) h9 (fun z => nomatch z)
  | str =>
    simp only [decide_eq_true_eq] at h9
    exact builtin (fun k z => nomatch z) h9 (fun z => nomatch z)
theorem snd_isi (a : IE) (t : IT) (ha : SndE g C cf a) : SndE g C cf (.isi a t) := by
  intro c e X Wd h xc gg
  unfold ck at h
  split at h
  · rename_i x ea et he
    obtain ⟨p, p', rfl⟩ := vCall_eq he
    simp only [Bool.and_eq_true, decide_eq_true_eq] at h
    obtain ⟨⟨⟨⟨⟨rfl, h2⟩, h3⟩, h4⟩, h5⟩, h6⟩ := h
    split at h6
    · rename_i y hy
      obtain ⟨py, rfl⟩ := vName_eq hy
      rw [Bool.and_eq_true, Bool.and_eq_true] at h6
      obtain ⟨⟨h7, h8⟩, h9⟩ := h6
      have pa := (ha c ea X Wd h3 xc gg).1
      have q : PE X (.Call (.Name ("isinstance" : Str) p) [ea, .Name y py] [] p') (tI X.K C Wd (ev cf (.isi a t))) := by
        obtain ⟨cv, pc, hcv⟩ := isi_cls (py := py) xc gg h7 h8 h9
        have hm : X.mg ("isinstance" : Str) = none := gg.nog _ (by decide +kernel)
        refine PE.imp (pe_callB (CallR.or call_isi call_isX) (xc.gl h2) hm (show bootBuiltins "isinstance" = some (.builtin "isinstance") by decide +kernel) (pa_cons pa (pa_cons pc pa_nil (star_cons h5)) (star_cons h4)) (by decide) (by decide) (star_cons h4) (star_plain (by
          unfold noStars
          rw [h5]
          rfl))) fun σr H Q ⟨F, ρ, σ, M, R, S, q⟩ => ?_
        simp only [ev] at q
        refine one_part (Q' := fun x H1 => tCons (tC cv) tNil σr H1 fun xs H2 => (fun xs H Q => rIsi X.K xs H Q ∨ rIsX X.K xs H Q) (x :: xs) H2 Q) R S q fun {F H2 ρ M1 v x} R rv q2 => ?_
        obtain ⟨k, e1, q3⟩ := retB_out q2
        exact hcv R rv e1 (out_bl R q3)
      exact ⟨q, fun _ => plain_test q trivial⟩
    · cases h6
  · cases h
theorem base_plain {o : Expr} {m : Str} {env : Env} (h : notCall o = true) : attributeBase o m env (eval o env) = eval o env := by
  cases o with
  | Call f _ _ _ => cases f <;> first | rfl | cases h
  | _ => first | rfl | cases h
theorem few1 {e : Expr} {p : Pos} {env : Env} (h : notStar e = true) : ((backTo p (starEach [e] env)).all (fun x => !x.1) && (backToKw p (keywordEach [] env)).all (fun x => x.1.isSome) && decide (([e] : List Expr).length + ([] : List Keyword).length + (if ([] : List Keyword).isEmpty then 0 else 1) < 30)) = true := by
  rw [star_cons h]
  rfl
theorem snd_mth (f : MF) (o a : IE) (ho : SndE g C cf o) (ha : SndE g C cf a) : SndE g C cf (.mth f o a) := by
  intro c e X Wd h xc gg
  unfold ck at h
  split at h
  · rename_i eo m ea he
    obtain ⟨p, p', rfl, hline, hcall⟩ := vMth_eq he
    simp only [Bool.and_eq_true, decide_eq_true_eq] at h
    obtain ⟨⟨⟨rfl, h2⟩, h3⟩, h4⟩ := h
    obtain ⟨r, hr, hv⟩ := mth_r (X := X) (C := C) gg.hu f
    have po := (ho c eo X Wd h2 xc gg).1
    have pa := (ha c ea X Wd h3 xc gg).1
    have q : PE X (.Call (.Attribute eo (mthNm f) p) [ea] [] p') (tI X.K C Wd (ev cf (.mth f o a))) := by
      have i : ∀ σr H Q, tI X.K C Wd (ev cf (.mth f o a)) σr H Q → tBM X.K (mthT f) r (tI X.K C Wd (ev cf o)) (tCons (tI X.K C Wd (ev cf a)) tNil) σr H Q := fun σr H Q ⟨F, ρ, σ, M, R, S, q⟩ => by
        simp only [ev] at q
        refine ⟨F, ρ, σ, M, R, S, Pst.conseq (Pst.bind q) fun v1 H1 ⟨F1, ρ1, w1, M1, x1, R1, r1, _, q1⟩ => ?_⟩
        split at q1
        · exact q1.elim
        · rename_i x hx
          obtain ⟨ew, ty⟩ : w1 = .d x ∧ tyV X.K (mthT f) v1 H1 := by
            have hl : ∀ {w : W}, onlyL w = some x → VR X.K F1 ρ1 v1 w → w = .d x ∧ tyV X.K "list" v1 H1 := fun {w} e r => by
              unfold onlyL at e
              split at e
              · cases e
                refine ⟨rfl, ?_⟩
                have r' : DR F1 v1 (.list _) := r
                cases r' with
                | lst e1 e2 => exact .inl ⟨rfl, _, .of (R1.sub _ _ e1)⟩
              · cases e
            have hs : ∀ {w : W}, onlyS w = some x → VR X.K F1 ρ1 v1 w → w = .d x ∧ tyV X.K "str" v1 H1 := fun {w} e r => by
              unfold onlyS at e
              split at e
              · cases e
                refine ⟨rfl, ?_⟩
                have r' : DR F1 v1 (.str _) := r
                cases r' with
                | str z => exact rfl
              · cases e
            cases f
            · exact hl hx r1
            · exact hl hx r1
            · exact hs hx r1
            · exact hs hx r1
          subst ew
          refine ⟨ty, F1, ρ1, σ, M1, R1, S.mono x1, Pst.conseq (Pst.bind q1) fun v2 H2 ⟨F2, ρ2, w2, M2, x2, R2, r2, _, q2⟩ => ?_⟩
          split at q2
          · rename_i y hy
            cases hz : mthD f x y with
            | none =>
              rw [hz] at q2
              exact q2.elim
            | some z =>
              rw [hz] at q2
              exact hv R2 (r1.mono x2) r2 hy hz q2
          · exact q2.elim
      have pargs : PA X [ea] (tCons (tI X.K C Wd (ev cf a)) tNil) := pa_cons pa pa_nil (star_cons h4)
      have sp : (backTo p' (starEach [] X.env)).any (·.1) = false := rfl
      cases f
      · exact PE.imp (pe_bm PySem.F.plainAttrs_list PySem.F.slot_list_index PySem.F.type_list_index hr po pargs (base_plain hcall) (few1 h4) hline (star_cons h4) sp) i
      · exact PE.imp (pe_bm PySem.F.plainAttrs_list PySem.F.slot_list_count PySem.F.type_list_count hr po pargs (base_plain hcall) (few1 h4) hline (star_cons h4) sp) i
      · exact PE.imp (pe_bm PySem.F.plainAttrs_str PySem.F.slot_str_join PySem.F.type_str_join hr po pargs (base_plain hcall) (few1 h4) hline (star_cons h4) sp) i
      · exact PE.imp (pe_bm PySem.F.plainAttrs_str PySem.F.slot_str_split PySem.F.type_str_split hr po pargs (base_plain hcall) (few1 h4) hline (star_cons h4) sp) i
    exact ⟨q, fun _ => plain_test q trivial⟩
  · cases h
end
end Wl

set_option Elab.async false
set_option linter.all false
set_option maxRecDepth 100000
set_option maxHeartbeats 1000000
namespace Wl
open PySem PySem.Spec PyProof.Rows L2
section
variable {g : Gc} {C : Nat → Addr} {cf : CF}
theorem snds_nil : SndEs g C cf .nil := by
  intro c l X Wd h xc gg
  cases l with
  | cons _ _ => cases h
  | nil =>
    refine ⟨PA.imp pa_nil fun σr H Q ⟨F, ρ, σ, M, R, S, q⟩ => ?_, fun k pos hl => absurd rfl hl, fun ie r e => nomatch e⟩
    simp only [evs] at q
    exact q F H ρ [] (.refl F H ρ) R .nil
theorem opB_t : opB true = .And := rfl
theorem opB_f : opB false = .Or := rfl
theorem snds_cons (a : IE) (es : IEs) (ha : SndE g C cf a) (hs : SndEs g C cf es) : SndEs g C cf (.cons a es) := by
  intro c l X Wd h xc gg
  cases l with
  | nil => cases h
  | cons e l =>
    have h0 := h
    unfold cks at h
    simp only [Bool.and_eq_true] at h
    obtain ⟨⟨h1, h2⟩, h3⟩ := h
    obtain ⟨pa, pt⟩ := ha c e X Wd h1 xc gg
    obtain ⟨ps, pb, ph⟩ := hs c l X Wd h3 xc gg
    refine ⟨PA.imp (pa_cons pa ps (star_cons h2)) fun σr H Q ⟨F, ρ, σ, M, R, S, q⟩ => ?_, fun k pos _ => ?_, fun ie r eq => ?_⟩
    · simp only [evs] at q
      refine ⟨F, ρ, σ, M, R, S, ?_⟩
      split at q
      · rename_i w M1 ho
        rw [ho]
        intro F1 H1 ρ1 v x1 R1 r1
        refine ⟨F1, ρ1, σ, M1, R1, S.mono x1, ?_⟩
        split at q
        · rename_i ws M2 hos
          rw [hos]
          intro F2 H2 ρ2 vs x2 R2 r2
          exact q F2 H2 ρ2 (v :: vs) (x1.trans x2) R2 (.cons (r1.mono x2) r2)
        · rename_i o hno
          cases ho2 : evs cf es σ M1 with
          | none =>
            rw [ho2] at q
            exact q.elim
          | some o2 =>
            cases o2 with
            | val ws M2 => exact absurd ho2 (hno ws M2)
            | exc cc M2 =>
              rw [ho2] at q
              exact fun F2 H2 ρ2 x2 R2 => q F2 H2 ρ2 (x1.trans x2) R2
      · rename_i cc M1 ho
        rw [ho]
        exact q
      · exact q.elim
    · cases l with
      | nil =>
        have ees : es = .nil := by
          cases es with
          | nil => rfl
          | cons _ _ => cases h3
        subst ees
        refine ⟨PE.imp (pe_one pa) fun σr H Q q => by simpa only [tI, evB] using q, fun ht => ?_⟩
        have pt' := pt (by
          unfold tstOks at ht
          rw [Bool.and_eq_true] at ht
          exact ht.1)
        have i : ∀ σr H Q, tB (tI X.K C Wd (evB cf k (.cons a .nil))) σr H Q → tB (tI X.K C Wd (ev cf a)) σr H Q := fun σr H Q q => by simpa only [tB, tI, evB] using q
        cases k with
        | true => exact ⟨fun wh pins s σ H Q I q => (pw_and1 pt').run wh pins s σ H Q I (i _ _ _ q)⟩
        | false => exact ⟨fun wh pins s σ H Q I q => (pw_or1 pt').run wh pins s σ H Q I (i _ _ _ q)⟩
      | cons e' l' =>
        obtain ⟨a', es', rfl⟩ : ∃ a' es', es = .cons a' es' := by
          cases es with
          | nil => cases h3
          | cons a' es' => exact ⟨a', es', rfl⟩
        obtain ⟨pe', pt'⟩ := pb k pos (by simp)
        cases k with
        | true =>
          have i : ∀ σr H Q, tI X.K C Wd (evB cf true (.cons a (.cons a' es'))) σr H Q → tAndV (tI X.K C Wd (ev cf a)) (tI X.K C Wd (evB cf true (.cons a' es'))) σr H Q := fun σr H Q ⟨F, ρ, σ, M, R, S, q⟩ => by
            rw [evB] at q
            refine ⟨F, ρ, σ, M, R, S, Pst.conseq (Pst.bind q) fun v1 H1 ⟨F1, ρ1, w1, M1, x1, R1, r1, _, q1⟩ => ?_⟩
            split at q1
            · rename_i b _
              refine ⟨b, VR.bl r1, ?_⟩
              cases b with
              | true => exact ⟨F1, ρ1, σ, M1, R1, S.mono x1, q1⟩
              | false => exact out_bl R1 q1
            · exact q1.elim
          refine ⟨PE.imp (pe_and pa pe') i, fun ht => ?_⟩
          unfold tstOks at ht
          rw [Bool.and_eq_true] at ht
          refine ⟨fun wh pins s σ H Q I q => (pw_and (pt ht.1) (pt' ht.2)).run wh pins s σ H Q I ?_⟩
          obtain ⟨F, ρ, σw, M, R, S, q⟩ := q
          rw [evB] at q
          refine ⟨F, ρ, σw, M, R, S, Pst.conseq (Pst.bind q) fun v1 H1 ⟨F1, ρ1, w1, M1, x1, R1, r1, _, q1⟩ => ?_⟩
          split at q1
          · rename_i b _
            refine ⟨b, VR.bl r1, ?_⟩
            cases b with
            | true => exact ⟨F1, ρ1, σw, M1, R1, S.mono x1, q1⟩
            | false =>
              obtain ⟨b', e1, q3⟩ := out_bl R1 q1
              cases e1
              exact q3
          · exact q1.elim
        | false =>
          have i : ∀ σr H Q, tI X.K C Wd (evB cf false (.cons a (.cons a' es'))) σr H Q → tOrV (tI X.K C Wd (ev cf a)) (tI X.K C Wd (evB cf false (.cons a' es'))) σr H Q := fun σr H Q ⟨F, ρ, σ, M, R, S, q⟩ => by
            rw [evB] at q
            refine ⟨F, ρ, σ, M, R, S, Pst.conseq (Pst.bind q) fun v1 H1 ⟨F1, ρ1, w1, M1, x1, R1, r1, _, q1⟩ => ?_⟩
            split at q1
            · rename_i b _
              refine ⟨b, VR.bl r1, ?_⟩
              cases b with
              | false => exact ⟨F1, ρ1, σ, M1, R1, S.mono x1, q1⟩
              | true => exact out_bl R1 q1
            · exact q1.elim
          refine ⟨PE.imp (pe_or pa pe') i, fun ht => ?_⟩
          unfold tstOks at ht
          rw [Bool.and_eq_true] at ht
          refine ⟨fun wh pins s σ H Q I q => (pw_or (pt ht.1) (pt' ht.2)).run wh pins s σ H Q I ?_⟩
          obtain ⟨F, ρ, σw, M, R, S, q⟩ := q
          rw [evB] at q
          refine ⟨F, ρ, σw, M, R, S, Pst.conseq (Pst.bind q) fun v1 H1 ⟨F1, ρ1, w1, M1, x1, R1, r1, _, q1⟩ => ?_⟩
          split at q1
          · rename_i b _
            refine ⟨b, VR.bl r1, ?_⟩
            cases b with
            | false => exact ⟨F1, ρ1, σw, M1, R1, S.mono x1, q1⟩
            | true =>
              obtain ⟨b', e1, q3⟩ := out_bl R1 q1
              cases e1
              exact q3
          · exact q1.elim
    · cases eq
      exact ⟨e, l, rfl, pa, pt, h3⟩

/-! ### what is walked -/
structure Wk (K : PySem.W.Frag) (C : Nat → Addr) (J : It) (F : Hp) (xs : List PyData) : Prop where
  go : ∀ i H, Same F H → i < xs.length → J.go i H
  stop : ∀ H, Same F H → J.stop xs.length H
  yld : ∀ (i : Nat) (H : Hp) (v : V) (H' F1 : Hp) (ρ : List Addr) (M : MH) (x : PyData), Same F F1 → Rl K C F1 H ρ M → xs[i]? = some x → J.yld i H v H' → ∃ F2, Ext F1 H ρ F2 H' ρ ∧ Rl K C F2 H' ρ M ∧ DR F2 v x
def PstI (K : PySem.W.Frag) (C : Nat → Addr) (F H : Hp) (ρ : List Addr) (E : Nat → Hp → Prop) (Q : It → Hp → Prop) : Option OutI → Prop
  | none => False
  | some (.val xs M') => ∀ F' H' ρ' J, Ext F H ρ F' H' ρ' → Rl K C F' H' ρ' M' → Wk K C J F' xs → Q J H'
  | some (.exc c M') => ∀ F' H' ρ', Ext F H ρ F' H' ρ' → Rl K C F' H' ρ' M' → E c H'
def tIt (K : PySem.W.Frag) (C : Nat → Addr) (Wd : WX) (o : Sl → MH → Option OutI) : TI := fun σr H Q => ∃ (F : Hp) (ρ : List Addr) (σ : Sl) (M : MH), Rl K C F H ρ M ∧ SR K F ρ σ σr ∧ PstI K C F H ρ (EW C Wd σr) Q (o σ M)
theorem PstI.mono {K : PySem.W.Frag} {F F' H H' : Hp} {ρ ρ' : List Addr} {E : Nat → Hp → Prop} {Q : It → Hp → Prop} {o : Option OutI} (e : Ext F H ρ F' H' ρ') (h : PstI K C F H ρ E Q o) : PstI K C F' H' ρ' E Q o := by
  cases o with
  | none => exact h
  | some o =>
    cases o with
    | val w M' => exact fun F2 H2 ρ2 J x R r => h F2 H2 ρ2 J (e.trans x) R r
    | exc c M' => exact fun F2 H2 ρ2 x R => h F2 H2 ρ2 (e.trans x) R
theorem wk_list {K : PySem.W.Frag} {F : Hp} {a : Addr} {vs : List V} {xs : List PyData} (h : F a = some (.lst vs)) (d : DRs F vs xs) : Wk K C (Itl K a) F xs := by
  refine ⟨fun i H s hi => ?_, fun H s => ⟨vs, .of (s _ _ h), by rw [d.length]; exact Nat.le_refl _⟩, fun i H v H' F1 ρ M x s R hx y => ?_⟩
  · have hv : i < vs.length := by
      rw [d.length]
      exact hi
    exact ⟨vs, vs[i], .of (s _ _ h), List.getElem?_eq_getElem hv⟩
  · obtain ⟨rfl, hy⟩ := y
    obtain ⟨u, hu, ru⟩ := d.get hx
    have := hy vs (.of (R.sub _ _ (s _ _ h)))
    rw [hu] at this
    cases this
    exact ⟨F1, .refl F1 _ ρ, R, DR.mono s _ _ ru⟩
theorem wk_tup {K : PySem.W.Frag} {F : Hp} {a : Addr} {vs : List V} {xs : List PyData} (h : F a = some (.tup vs)) (d : DRs F vs xs) : Wk K C (Itt K a) F xs := by
  refine ⟨fun i H s hi => ?_, fun H s => ⟨vs, .of (s _ _ h), by rw [d.length]; exact Nat.le_refl _⟩, fun i H v H' F1 ρ M x s R hx y => ?_⟩
  · have hv : i < vs.length := by
      rw [d.length]
      exact hi
    exact ⟨vs, vs[i], .of (s _ _ h), List.getElem?_eq_getElem hv⟩
  · obtain ⟨rfl, hy⟩ := y
    obtain ⟨u, hu, ru⟩ := d.get hx
    have := hy vs (.of (R.sub _ _ (s _ _ h)))
    rw [hu] at this
    cases this
    exact ⟨F1, .refl F1 _ ρ, R, DR.mono s _ _ ru⟩
theorem wk_str {K : PySem.W.Frag} {F : Hp} (z : Str) : Wk K C (Its z) F (z.cps.toList.map fun c => .str ⟨#[c]⟩) := by
  refine ⟨fun i H s hi => by
      show i < z.cps.size
      simpa using hi, fun H s => by
      show z.cps.size ≤ _
      simp, fun i H v H' F1 ρ M x s R hx y => ?_⟩
  obtain ⟨rfl, c, hc, rfl⟩ := y
  rw [List.getElem?_map] at hx
  have : z.cps.toList[i]? = some c := by simpa using hc
  rw [this] at hx
  cases hx
  exact ⟨F1, .refl F1 _ ρ, R, .str _⟩
theorem rngL_len : ∀ (n : Nat) (i : Int), (rngL i n).length = n
  | 0, _ => rfl
  | n + 1, i => by rw [rngL, List.length_cons, rngL_len n]
theorem rngL_get : ∀ (n : Nat) (i : Int) (j : Nat) (x : PyData), (rngL i n)[j]? = some x → x = .int (i + j)
  | 0, _, j, x, h => by simp [rngL] at h
  | n + 1, i, 0, x, h => by
    simp [rngL] at h
    rw [← h]
    simp
  | n + 1, i, j + 1, x, h => by
    rw [rngL, List.getElem?_cons_succ] at h
    rw [rngL_get n (i + 1) j x h]
    congr 1
    omega
theorem wk_rng {K : PySem.W.Frag} {F : Hp} (lo : Int) (n : Nat) : Wk K C (Itr lo n) F (rngL lo n) := by
  refine ⟨fun i H s hi => by rw [rngL_len] at hi; exact hi, fun H s => by rw [rngL_len]; exact Nat.le_refl _, fun i H v H' F1 ρ M x s R hx y => ?_⟩
  obtain ⟨rfl, rfl⟩ := y
  rw [rngL_get n lo i x hx]
  exact ⟨F1, .refl F1 _ ρ, R, .int _⟩
theorem rngDn_len : ∀ (n : Nat) (i : Int), (rngDn i n).length = n
  | 0, _ => rfl
  | n + 1, i => by rw [rngDn, List.length_cons, rngDn_len n]
theorem rngDn_get : ∀ (n : Nat) (i : Int) (j : Nat) (x : PyData), (rngDn i n)[j]? = some x → x = .int (i - j)
  | 0, _, j, x, h => by simp [rngDn] at h
  | n + 1, i, 0, x, h => by
    simp [rngDn] at h
    rw [← h]
    simp
  | n + 1, i, j + 1, x, h => by
    rw [rngDn, List.getElem?_cons_succ] at h
    rw [rngDn_get n (i - 1) j x h]
    congr 1
    omega
theorem wk_rngDn {K : PySem.W.Frag} {F : Hp} (lo : Int) (n : Nat) : Wk K C (Itc lo (-1) n) F (rngDn lo n) := by
  refine ⟨fun i H s hi => by rw [rngDn_len] at hi; exact hi, fun H s => by rw [rngDn_len]; exact Nat.le_refl _, fun i H v H' F1 ρ M x s R hx y => ?_⟩
  obtain ⟨rfl, rfl⟩ := y
  rw [rngDn_get n lo i x hx]
  refine ⟨F1, .refl F1 _ ρ, R, ?_⟩
  have e : lo + (i : Int) * (-1) = lo - (i : Int) := by omega
  rw [e]
  exact .int _
theorem zipD_len : ∀ xs ys : List PyData, (zipD xs ys).length = min xs.length ys.length
  | [], _ => by simp [zipD]
  | _ :: _, [] => by simp [zipD]
  | x :: xs, y :: ys => by
    rw [zipD, List.length_cons, zipD_len xs ys, List.length_cons, List.length_cons]
    omega
theorem zipD_get : ∀ (xs ys : List PyData) (i : Nat) (z : PyData), (zipD xs ys)[i]? = some z → ∃ x y, xs[i]? = some x ∧ ys[i]? = some y ∧ z = .tuple [x, y]
  | [], _, i, z, h => by simp [zipD] at h
  | _ :: _, [], i, z, h => by simp [zipD] at h
  | x :: xs, y :: ys, 0, z, h => by
    simp [zipD] at h
    exact ⟨x, y, rfl, rfl, h.symm⟩
  | x :: xs, y :: ys, i + 1, z, h => by
    rw [zipD, List.getElem?_cons_succ] at h
    obtain ⟨x', y', h1, h2, h3⟩ := zipD_get xs ys i z h
    exact ⟨x', y', by simpa using h1, by simpa using h2, h3⟩
theorem wk_zip {K : PySem.W.Frag} {F : Hp} {a b : Addr} {vs us : List V} {xs ys : List PyData} (h : F a = some (.lst vs)) (d : DRs F vs xs) (h' : F b = some (.lst us)) (d' : DRs F us ys) : Wk K C (Itz K a b) F (zipD xs ys) := by
  refine ⟨fun i H s hi => ?_, fun H s => ⟨vs, us, .of (s _ _ h), .of (s _ _ h'), ?_⟩, fun i H v H' F1 ρ M x s R hx y => ?_⟩
  · rw [zipD_len] at hi
    have hv : i < vs.length := by
      rw [d.length]
      omega
    have hu : i < us.length := by
      rw [d'.length]
      omega
    exact ⟨vs, us, vs[i], us[i], .of (s _ _ h), .of (s _ _ h'), List.getElem?_eq_getElem hv, List.getElem?_eq_getElem hu⟩
  · rw [zipD_len, d.length, d'.length]
    omega
  · obtain ⟨T, x1, x2, rfl, nT, rfl, f1, f2⟩ := y
    obtain ⟨x', y', g1, g2, rfl⟩ := zipD_get xs ys i x hx
    obtain ⟨u1, hu1, r1⟩ := d.get g1
    obtain ⟨u2, hu2, r2⟩ := d'.get g2
    have e1 := f1 vs (.of (R.sub _ _ (s _ _ h)))
    have e2 := f2 us (.of (R.sub _ _ (s _ _ h')))
    rw [hu1] at e1
    rw [hu2] at e2
    cases e1
    cases e2
    obtain ⟨R', e, r⟩ := R.newT nT (.cons (DR.mono s _ _ r1) (.cons (DR.mono s _ _ r2) .nil))
    exact ⟨_, e, R', r⟩
theorem enmD_len : ∀ (xs : List PyData) (k : Nat), (enmD k xs).length = xs.length
  | [], _ => rfl
  | x :: xs, k => by rw [enmD, List.length_cons, enmD_len xs, List.length_cons]
theorem enmD_get : ∀ (xs : List PyData) (k i : Nat) (z : PyData), (enmD k xs)[i]? = some z → ∃ x, xs[i]? = some x ∧ z = .tuple [.int ((k + i : Nat) : Int), x]
  | [], _, i, z, h => by simp [enmD] at h
  | x :: xs, k, 0, z, h => by
    simp [enmD] at h
    exact ⟨x, rfl, by rw [← h]; simp⟩
  | x :: xs, k, i + 1, z, h => by
    rw [enmD, List.getElem?_cons_succ] at h
    obtain ⟨x', h1, h2⟩ := enmD_get xs (k + 1) i z h
    exact ⟨x', by simpa using h1, by rw [h2]; congr 3; omega⟩
theorem wk_enm {K : PySem.W.Frag} {F : Hp} {a : Addr} {vs : List V} {xs : List PyData} (h : F a = some (.lst vs)) (d : DRs F vs xs) : Wk K C (Ite K a) F (enmD 0 xs) := by
  refine ⟨fun i H s hi => ?_, fun H s => ⟨vs, .of (s _ _ h), by rw [d.length, enmD_len]; exact Nat.le_refl _⟩, fun i H v H' F1 ρ M x s R hx y => ?_⟩
  · rw [enmD_len] at hi
    have hv : i < vs.length := by
      rw [d.length]
      exact hi
    exact ⟨vs, vs[i], .of (s _ _ h), List.getElem?_eq_getElem hv⟩
  · obtain ⟨T, x1, rfl, nT, rfl, f1⟩ := y
    obtain ⟨x', g1, rfl⟩ := enmD_get xs 0 i x hx
    obtain ⟨u1, hu1, r1⟩ := d.get g1
    have e1 := f1 vs (.of (R.sub _ _ (s _ _ h)))
    rw [hu1] at e1
    cases e1
    rw [Nat.zero_add]
    obtain ⟨R', e, r⟩ := R.newT nT (.cons (.int (i : Int)) (.cons (DR.mono s _ _ r1) .nil))
    exact ⟨_, e, R', r⟩
end
end Wl

set_option Elab.async false
set_option linter.all false
set_option maxRecDepth 100000
set_option maxHeartbeats 1000000
namespace Wl
open PySem PySem.Spec PyProof.Rows L2
section
variable {g : Gc} {C : Nat → Addr} {cf : CF}
variable (g C cf) in
def SndI (it : II) : Prop := ∀ (c : Cc) (e tg : Expr) (X : Cx) (Wd : WX), cki g it c e tg = true → XC X c → G g C cf X Wd →
  PI X tg e (tIt X.K C Wd (evi cf it)) ∧ ∀ x, foldedSetIterable e X.env x = pure x
theorem notSet_f {e : Expr} {env : Env} (h : isSet e = false) : ∀ x, foldedSetIterable e env x = pure x := by
  intro x
  cases e <;> first | rfl | cases h
theorem PI.imp {X : Cx} {tg e : Expr} {t t' : TI} (h : PI X tg e t) (i : ∀ σ H R, t' σ H R → t σ H R) : PI X tg e t' := ⟨fun pins s σ H R I q => h.run pins s σ H R I (i _ _ _ q)⟩
theorem evi_bind {K : PySem.W.Frag} {F H : Hp} {ρ : List Addr} {E : Nat → Hp → Prop} {Q : It → Hp → Prop} {w : W} {M1 : MH} {o : Option OutI} (h : PstI K C F H ρ E Q o) (xs : List PyData) (M' : MH) (e : o = some (.val xs M')) {F' H' : Hp} {ρ' : List Addr} {J : It} (x : Ext F H ρ F' H' ρ') (R : Rl K C F' H' ρ' M') (k : Wk K C J F' xs) : Q J H' := by
  subst e
  exact h F' H' ρ' J x R k
theorem sndi_seq (k : Nat) (a : IE) (ha : SndE g C cf a) : SndI g C cf (.seq k a) := by
  intro c e tg X Wd h xc gg
  unfold cki at h
  simp only [Bool.and_eq_true, Bool.not_eq_true'] at h
  have pa := (ha c e X Wd h.1 xc gg).1
  refine ⟨?_, notSet_f h.2⟩
  have core : ∀ (σr : L2.St) (H : Hp) (R' : It → Hp → Prop) (QQ : VK), (∀ {F1 H1 : Hp} {ρ1 : List Addr} {M1 : MH} {v : V} {x : PyData} {xs : List PyData}, Rl X.K C F1 H1 ρ1 M1 → DR F1 v x → seqD k x = some xs → (∀ J, Wk X.K C J F1 xs → R' J H1) → QQ v H1) → tIt X.K C Wd (evi cf (.seq k a)) σr H R' → tI X.K C Wd (ev cf a) σr H QQ := fun σr H R' QQ hk ⟨F, ρ, σ, M, R, S, q⟩ => by
    simp only [evi] at q
    refine ⟨F, ρ, σ, M, R, S, ?_⟩
    split at q
    · rename_i w M1 ho
      rw [ho]
      intro F1 H1 ρ1 v x1 R1 r1
      split at q
      · rename_i x hx
        have := dat_d hx
        subst this
        cases hz : seqD k x with
        | none =>
          rw [hz] at q
          exact q.elim
        | some xs =>
          rw [hz] at q
          exact hk R1 r1 hz fun J wk => q F1 H1 ρ1 J x1 R1 wk
      · exact q.elim
    · rename_i ho
      rw [ho]
      exact q
    · exact q.elim
  match k, core with
  | 0, core => exact PI.imp (pi_list pa) fun σr H R' q => core σr H R' _ (fun {F1 H1 ρ1 M1 v x xs} R1 r1 hz kk => by
      cases x with
      | list ys =>
        cases hz
        cases r1 with
        | lst e1 e2 => exact ⟨_, rfl, ⟨_, .of (R1.sub _ _ e1)⟩, kk _ (wk_list e1 e2)⟩
      | _ => cases hz) q
  | 1, core => exact PI.imp (pi_tup pa) fun σr H R' q => core σr H R' _ (fun {F1 H1 ρ1 M1 v x xs} R1 r1 hz kk => by
      cases x with
      | tuple ys =>
        cases hz
        cases r1 with
        | tup e1 e2 => exact ⟨_, rfl, ⟨_, .of (R1.sub _ _ e1)⟩, kk _ (wk_tup e1 e2)⟩
      | _ => cases hz) q
  | 2, core => exact PI.imp (pi_str pa) fun σr H R' q => core σr H R' _ (fun {F1 H1 ρ1 M1 v x xs} R1 r1 hz kk => by
      cases x with
      | str z =>
        cases hz
        cases r1
        exact ⟨_, rfl, kk _ (wk_str z)⟩
      | _ => cases hz) q
  | n + 3, core => exact PI.imp (pi_list pa) fun σr H R' q => core σr H R' _ (fun {F1 H1 ρ1 M1 v x xs} R1 r1 hz kk => by cases x <;> cases hz) q
theorem smallI_ok {i : Int} (h : smallI i = true) : -(2 ^ 62) ≤ i ∧ i < 2 ^ 62 := by
  unfold smallI at h
  simp only [Bool.and_eq_true, decide_eq_true_eq] at h
  omega
theorem DRs.one {F : Hp} {vs : List V} {x : PyData} (h : DRs F vs [x]) : ∃ v, vs = [v] ∧ DR F v x := by
  cases h with
  | cons q r =>
    cases r
    exact ⟨_, rfl, q⟩
theorem DRs.two {F : Hp} {vs : List V} {x y : PyData} (h : DRs F vs [x, y]) : ∃ v u, vs = [v, u] ∧ DR F v x ∧ DR F u y := by
  cases h with
  | cons q r =>
    obtain ⟨u, e, r⟩ := DRs.one r
    exact ⟨_, u, by rw [e], q, r⟩
theorem DRs.three {F : Hp} {vs : List V} {x y z : PyData} (h : DRs F vs [x, y, z]) : ∃ v u t, vs = [v, u, t] ∧ DR F v x ∧ DR F u y ∧ DR F t z := by
  cases h with
  | cons q r =>
    obtain ⟨u, t, e, r1, r2⟩ := DRs.two r
    exact ⟨_, u, t, by rw [e], q, r1, r2⟩
theorem DR.intv {F : Hp} {v : V} {i : Int} (h : DR F v (.int i)) : v = .int i := by
  cases h
  rfl
theorem evs_core {K : PySem.W.Frag} {es : IEs} {Wd : WX} {σr : L2.St} {F H : Hp} {ρ : List Addr} {σ : Sl} {M : MH} {R' : It → Hp → Prop} {f : List W → MH → Option OutI} {QQ : List V → Hp → Prop} (R : Rl K C F H ρ M) (S : SR K F ρ σ σr)
    (q : PstI K C F H ρ (EW C Wd σr) R' (match evs cf es σ M with
      | some (.val ws M1) => f ws M1
      | some (.exc c M1) => some (.exc c M1)
      | none => none)) (k : ∀ {F1 H1 : Hp} {ρ1 : List Addr} {M1 : MH} {vs : List V} {ws : List W}, Rl K C F1 H1 ρ1 M1 → VRs K F1 ρ1 vs ws → PstI K C F1 H1 ρ1 (EW C Wd σr) R' (f ws M1) → QQ vs H1) : tA K C Wd (evs cf es) σr H QQ := by
  refine ⟨F, ρ, σ, M, R, S, ?_⟩
  split at q
  · rename_i ws M1 ho
    rw [ho]
    exact fun F1 H1 ρ1 vs x1 R1 r1 => k R1 r1 (PstI.mono x1 q)
  · rename_i ho
    rw [ho]
    exact q
  · exact q.elim
def esLen : IEs → Nat
  | .nil => 0
  | .cons _ es => esLen es + 1
theorem evs_len : ∀ {es : IEs} {σ : Sl} {M : MH} {ws : List W} {M1 : MH}, evs cf es σ M = some (.val ws M1) → ws.length = esLen es
  | .nil, σ, M, ws, M1, h => by
    simp only [evs] at h
    cases h
    rfl
  | .cons a es, σ, M, ws, M1, h => by
    simp only [evs] at h
    split at h
    · split at h
      · rename_i h2
        cases h
        rw [List.length_cons, evs_len h2]
        rfl
      · rename_i hn
        rename_i h1 _
        exact absurd h (hn ws M1)
    · cases h
    · cases h
theorem cks_len : ∀ {es : IEs} {c : Cc} {l : List Expr}, cks g es c l = true → l.length = esLen es
  | .nil, c, [], h => rfl
  | .nil, c, _ :: _, h => by cases h
  | .cons _ _, c, [], h => by cases h
  | .cons a es, c, e :: l, h => by
    unfold cks at h
    simp only [Bool.and_eq_true] at h
    rw [List.length_cons, cks_len h.2]
    rfl
theorem sndi_rng (es : IEs) (hs : SndEs g C cf es) : SndI g C cf (.rng es) := by
  intro c e tg X Wd h xc gg
  unfold cki at h
  split at h
  · rename_i x l he
    obtain ⟨p, p', rfl⟩ := vCall_eq he
    simp only [Bool.and_eq_true, decide_eq_true_eq] at h
    obtain ⟨⟨⟨⟨rfl, h2⟩, h4⟩, h5⟩, h6⟩ := h
    have pa := (hs c l X Wd h4 xc gg).1
    have ns := noStars_of h4
    have hg := xc.gl h2
    have hm := gg.nog ("range" : Str) (by decide +kernel)
    have hlen := cks_len h4
    refine ⟨?_, fun _ => rfl⟩
    have core : ∀ (σr : L2.St) (H : Hp) (R' : It → Hp → Prop) (QQ : List V → Hp → Prop), (∀ {F1 H1 : Hp} {ρ1 : List Addr} {M1 : MH} {vs : List V} {xs ys : List PyData}, Rl X.K C F1 H1 ρ1 M1 → DRs F1 vs xs → xs.length = l.length → rngD xs = some ys → (∀ J, Wk X.K C J F1 ys → R' J H1) → QQ vs H1) → tIt X.K C Wd (evi cf (.rng es)) σr H R' → tA X.K C Wd (evs cf es) σr H QQ := fun σr H R' QQ hk ⟨F, ρ, σ, M, R, S, q⟩ => by
      rw [evi] at q
      refine ⟨F, ρ, σ, M, R, S, ?_⟩
      split at q
      · rename_i ws M1 ho
        rw [ho]
        intro F1 H1 ρ1 vs x1 R1 r1
        have q2 := PstI.mono x1 q
        split at q2
        · rename_i xs hx
          cases hz : rngD xs with
          | none =>
            rw [hz] at q2
            exact q2.elim
          | some ys =>
            rw [hz] at q2
            have d := r1.dats hx
            refine hk R1 d ?_ hz fun J wk => q2 F1 H1 ρ1 J (.refl F1 H1 ρ1) R1 wk
            rw [← d.length, r1.length, evs_len ho, hlen]
        · exact q2.elim
      · rename_i ho
        rw [ho]
        exact q
      · exact q.elim
    match l, h5, h6, pa, ns, core with
    | [a], _, _, pa, ns, core =>
      unfold noStars at ns
      rw [Bool.and_eq_true] at ns
      refine PI.imp (pi_range1 hg hm pa (star_cons ns.1)) fun σr H R' q => core σr H R' _ (fun {F1 H1 ρ1 M1 vs xs ys} R1 d hl hz kk => ?_) q
      unfold rngD at hz
      split at hz
      · split at hz
        · rename_i hsm
          cases hz
          obtain ⟨v, rfl, r⟩ := d.one
          obtain ⟨g1, g2⟩ := smallI_ok hsm
          exact ⟨_, by rw [DR.intv r], g1, g2, kk _ (wk_rng 0 _)⟩
        · cases hz
      · exact absurd hl (by simp)
      · exact absurd hl (by simp)
      · cases hz
    | [a, b], _, _, pa, ns, core =>
      unfold noStars noStars at ns
      simp only [Bool.and_eq_true] at ns
      refine PI.imp (pi_range2 hg hm pa (by rw [star_cons ns.1, star_cons ns.2.1]; rfl) (by rw [star_cons ns.2.1]; rfl)) fun σr H R' q => core σr H R' _ (fun {F1 H1 ρ1 M1 vs xs ys} R1 d hl hz kk => ?_) q
      unfold rngD at hz
      split at hz
      · exact absurd hl (by simp)
      · split at hz
        · rename_i hsm
          cases hz
          rw [Bool.and_eq_true] at hsm
          obtain ⟨v, u, rfl, r1, r2⟩ := d.two
          obtain ⟨g1, g2⟩ := smallI_ok hsm.1
          obtain ⟨g3, g4⟩ := smallI_ok hsm.2
          exact ⟨_, _, by rw [DR.intv r1, DR.intv r2], ⟨g1, g2, g3, g4⟩, kk _ (wk_rng _ _)⟩
        · cases hz
      · exact absurd hl (by simp)
      · cases hz
    | [a, b, d], _, _, pa, ns, core =>
      unfold noStars noStars noStars at ns
      simp only [Bool.and_eq_true] at ns
      refine PI.imp (pi_range3 hg hm pa (star_cons ns.1) (star_plain (by unfold noStars noStars; simp only [Bool.and_eq_true]; exact ns.2))) fun σr H R' q => core σr H R' _ (fun {F1 H1 ρ1 M1 vs xs ys} R1 d hl hz kk => ?_) q
      unfold rngD at hz
      split at hz
      · exact absurd hl (by simp)
      · exact absurd hl (by simp)
      · split at hz
        · rename_i hsm
          cases hz
          simp only [Bool.and_eq_true, decide_eq_true_eq] at hsm
          obtain ⟨v, u, t, rfl, r1, r2, r3⟩ := d.three
          obtain ⟨g1, g2⟩ := smallI_ok hsm.1.1
          obtain ⟨g3, g4⟩ := smallI_ok hsm.1.2
          have ek := hsm.2
          subst ek
          exact ⟨_, _, _, _, by rw [DR.intv r1, DR.intv r2, DR.intv r3], RgC.neg g1 g2 g3 g4, kk _ (wk_rngDn _ _)⟩
        · cases hz
      · cases hz
  · cases h
theorem sndi_zip (es : IEs) (hs : SndEs g C cf es) : SndI g C cf (.zip es) := by
  intro c e tg X Wd h xc gg
  unfold cki at h
  split at h
  · rename_i x l he
    obtain ⟨p, p', rfl⟩ := vCall_eq he
    simp only [Bool.and_eq_true, decide_eq_true_eq, Option.isSome_iff_exists] at h
    obtain ⟨⟨⟨⟨rfl, h2⟩, h4⟩, h5⟩, elts, h6⟩ := h
    obtain ⟨kk, tp, rfl⟩ := vTup_eq h6
    have pa := (hs c l X Wd h4 xc gg).1
    have ns := noStars_of h4
    have hg := xc.gl h2
    have hm := gg.nog ("zip" : Str) (by decide +kernel)
    refine ⟨?_, fun _ => rfl⟩
    match l, h5, pa, ns with
    | [a, b], _, pa, ns =>
      unfold noStars at ns
      rw [Bool.and_eq_true] at ns
      refine PI.imp (pi_zip hg hm pa (star_cons ns.1) (star_plain ns.2)) fun σr H R' ⟨F, ρ, σ, M, R, S, q⟩ => ?_
      simp only [evi] at q
      refine ⟨F, ρ, σ, M, R, S, ?_⟩
      split at q
      · rename_i xs ys M1 ho
        rw [ho]
        intro F1 H1 ρ1 vs x1 R1 r1
        obtain ⟨v, u, rfl, g1, g2⟩ := r1.two
        have g1 : DR F1 v (.list xs) := g1
        have g2 : DR F1 u (.list ys) := g2
        cases g1 with
        | lst e1 d1 =>
          cases g2 with
          | lst e2 d2 => exact ⟨_, _, _, _, rfl, .of (R1.sub _ _ e1), .of (R1.sub _ _ e2), q F1 H1 ρ1 _ x1 R1 (wk_zip e1 d1 e2 d2)⟩
      · exact q.elim
      · rename_i ho
        rw [ho]
        exact q
      · exact q.elim
  · cases h
theorem sndi_enm (es : IEs) (hs : SndEs g C cf es) : SndI g C cf (.enm es) := by
  intro c e tg X Wd h xc gg
  unfold cki at h
  split at h
  · rename_i x l he
    obtain ⟨p, p', rfl⟩ := vCall_eq he
    simp only [Bool.and_eq_true, decide_eq_true_eq, Option.isSome_iff_exists] at h
    obtain ⟨⟨⟨⟨rfl, h2⟩, h4⟩, h5⟩, elts, h6⟩ := h
    obtain ⟨kk, tp, rfl⟩ := vTup_eq h6
    have pa := (hs c l X Wd h4 xc gg).1
    have ns := noStars_of h4
    have hg := xc.gl h2
    have hm := gg.nog ("enumerate" : Str) (by decide +kernel)
    refine ⟨?_, fun _ => rfl⟩
    match l, h5, pa, ns with
    | [a], _, pa, ns =>
      unfold noStars at ns
      rw [Bool.and_eq_true] at ns
      refine PI.imp (pi_enum hg hm pa (star_cons ns.1)) fun σr H R' ⟨F, ρ, σ, M, R, S, q⟩ => ?_
      simp only [evi] at q
      refine ⟨F, ρ, σ, M, R, S, ?_⟩
      split at q
      · rename_i xs M1 ho
        rw [ho]
        intro F1 H1 ρ1 vs x1 R1 r1
        obtain ⟨v, rfl, g1⟩ := r1.one
        have g1 : DR F1 v (.list xs) := g1
        cases g1 with
        | lst e1 d1 => exact ⟨_, _, rfl, .of (R1.sub _ _ e1), q F1 H1 ρ1 _ x1 R1 (wk_enm e1 d1)⟩
      · exact q.elim
      · rename_i ho
        rw [ho]
        exact q
      · exact q.elim
  · cases h
end
end Wl

set_option Elab.async false
set_option linter.all false
set_option maxRecDepth 100000
set_option maxHeartbeats 1000000
namespace Wl
open PySem PySem.Spec PyProof.Rows L2
/-! ### dicts, sound -/
section
variable {K : PySem.W.Frag} {C : Nat → Addr} {F F' H H' : Hp} {ρ : List Addr} {M : MH} {v u : V} {k z : PyData} {kk : NestedKey} {xs : List XE} {kvs : List (PyData × PyData)}
theorem keyOk_inv (h : keyOk k = true) : ∃ ds kk, k = .tuple ds ∧ nkD k = some kk ∧ kk.depth ≤ 8 := by
  unfold keyOk at h
  split at h
  · rename_i ds
    split at h
    · rename_i kk e
      exact ⟨ds, kk, rfl, e, of_decide_eq_true h⟩
    · cases h
  · cases h
theorem key_r (R : Rl K C F H ρ M) (d : DR F v k) (h : keyOk k = true) : ∃ b kk, v = .ref b ∧ nkD k = some kk ∧ kk.depth ≤ 8 ∧ DR F (.ref b) k ∧ KyR K H b kk := by
  obtain ⟨ds, kk, rfl, e1, e2⟩ := keyOk_inv h
  obtain ⟨b, rfl⟩ : ∃ b, v = .ref b := by
    cases d
    exact ⟨_, rfl⟩
  exact ⟨b, kk, rfl, e1, e2, d, e2, _, e1, DR.dp R.sub _ _ d⟩
theorem keys_r (R : Rl K C F H ρ M) (p : Paired (ER F) xs kvs) : KysR K H xs := by
  have all : ∀ {l : List XE} {m : List (PyData × PyData)}, Paired (ER F) l m → KysR K H l := by
    intro l m q
    induction q with
    | nil => intro x hx; exact nomatch hx
    | @cons p q ps qs hq t ih =>
      intro x hx
      rcases List.mem_cons.mp hx with e | e
      · subst e
        exact ⟨hq.2.1, _, hq.1, DR.dp R.sub _ _ hq.2.2.1⟩
      · exact ih x e
  exact all p
theorem keqD_eq {a b : PyData} {x y : NestedKey} (h1 : nkD a = some x) (h2 : nkD b = some y) : keqD a b = decide (x = y) := by
  unfold keqD
  rw [h1, h2, NestedKey.decide_eq]
theorem look_r (hk : nkD k = some kk) (p : Paired (ER F) xs kvs) : (∃ z u, dlook k kvs = some z ∧ atX xs kk = some u ∧ DR F u z) ∨ (dlook k kvs = none ∧ atX xs kk = none) := by
  have all : ∀ {l : List XE} {m : List (PyData × PyData)}, Paired (ER F) l m → (∃ z u, dlook k m = some z ∧ atX l kk = some u ∧ DR F u z) ∨ (dlook k m = none ∧ atX l kk = none) := by
    intro l m q
    induction q with
    | nil => exact .inr ⟨rfl, rfl⟩
    | @cons p q ps qs hq t ih =>
      obtain ⟨q1, q2⟩ := q
      have hq1 : nkD q1 = some p.1 := hq.1
      have ek := keqD_eq hq1 hk
      by_cases e : p.1 = kk
      · rw [decide_eq_true e] at ek
        refine .inl ⟨q2, p.2.2, ?_, by simp [atX, List.find?_cons, e], hq.2.2.2⟩
        unfold dlook
        rw [ek, if_pos rfl]
      · rw [decide_eq_false e] at ek
        have a1 : atX (p :: ps) kk = atX ps kk := by simp [atX, List.find?_cons, e]
        have a2 : dlook k ((q1, q2) :: qs) = dlook k qs := by
          rw [dlook, ek, if_neg Bool.false_ne_true]
        rw [a1, a2]
        exact ih
  exact all p
theorem look_some (hk : nkD k = some kk) (p : Paired (ER F) xs kvs) : (dlook k kvs).isSome = (atX xs kk).isSome := by
  rcases look_r hk p with ⟨z, u, e1, e2, _⟩ | ⟨e1, e2⟩
  · rw [e1, e2]
    rfl
  · rw [e1, e2]
    rfl
theorem put_map (hk : nkD k = some kk) (du : DR F u z) (p : Paired (ER F) xs kvs) : Paired (ER F) (xs.map fun x => if x.1 = kk then (x.1, x.2.1, u) else x) (kvs.map fun q => if keqD q.1 k then (q.1, z) else q) := by
  have all : ∀ {l : List XE} {m : List (PyData × PyData)}, Paired (ER F) l m → Paired (ER F) (l.map fun x => if x.1 = kk then (x.1, x.2.1, u) else x) (m.map fun q => if keqD q.1 k then (q.1, z) else q) := by
    intro l m q
    induction q with
    | nil => exact .nil
    | @cons p q ps qs hq t ih =>
      rw [List.map_cons, List.map_cons]
      refine .cons ?_ ih
      have ek := keqD_eq hq.1 hk
      by_cases e : p.1 = kk
      · rw [decide_eq_true e] at ek
        rw [if_pos e, ek, if_pos rfl]
        exact ⟨hq.1, hq.2.1, hq.2.2.1, du⟩
      · rw [decide_eq_false e] at ek
        rw [if_neg e, ek, if_neg Bool.false_ne_true]
        exact hq
  exact all p
theorem paired_snoc {α β : Type} {P : α → β → Prop} {a : α} {b : β} (h : P a b) : ∀ {l : List α} {m : List β}, Paired P l m → Paired P (l ++ [a]) (m ++ [b])
  | _, _, .nil => .cons h .nil
  | _, _, .cons q r => .cons q (paired_snoc h r)
theorem put_r {b : Addr} (hk : nkD k = some kk) (hd : kk.depth ≤ 8) (db : DR F (.ref b) k) (du : DR F u z) (p : Paired (ER F) xs kvs) : Paired (ER F) (putX xs kk b u) (dput k z kvs) := by
  unfold putX dput
  rcases look_r hk p with ⟨z', u', e1, e2, _⟩ | ⟨e1, e2⟩
  · rw [e1, e2]
    exact put_map hk du p
  · rw [e1, e2]
    exact paired_snoc ⟨hk, hd, db, du⟩ p
/-! the dicts with ints for keys -/
theorem keq_int (i j : Int) : keqD (.int i) (.int j) = decide (i = j) := by
  rw [keqD_eq (x := .num i) (y := .num j) rfl rfl]
  by_cases h : i = j
  · rw [decide_eq_true h, decide_eq_true (by rw [h])]
  · rw [decide_eq_false h, decide_eq_false (fun z => h (by cases z; rfl))]
theorem kr_any {i : Int} {ks : List (Key × V)} (p : Paired (KR F) ks kvs) : (ks.any fun kv => decide (kv.1 = .inl i)) = (dlook (.int i) kvs).isSome := by
  have all : ∀ {l : List (Key × V)} {m : List (PyData × PyData)}, Paired (KR F) l m → (l.any fun kv => decide (kv.1 = .inl i)) = (dlook (.int i) m).isSome := by
    intro l m q
    induction q with
    | nil => rfl
    | @cons p q ps qs hq t ih =>
      obtain ⟨q1, q2⟩ := q
      obtain ⟨j, e1, e2, _⟩ := hq
      simp only at e1
      subst e1
      rw [List.any_cons, ih, dlook, keq_int]
      by_cases e : j = i
      · rw [decide_eq_true e, decide_eq_true (by rw [e2, e]), if_pos rfl]
        rfl
      · rw [decide_eq_false e, decide_eq_false (fun z => e (by rw [e2] at z; cases z; rfl)), if_neg Bool.false_ne_true]
        rfl
  exact all p
theorem kr_put {i : Int} {ks : List (Key × V)} (du : DR F u z) (p : Paired (KR F) ks kvs) : Paired (KR F) (putK ks (.inl i) u) (dput (.int i) z kvs) := by
  have all : ∀ {l : List (Key × V)} {m : List (PyData × PyData)}, Paired (KR F) l m → Paired (KR F) (l.map fun kv => if kv.1 = .inl i then (kv.1, u) else kv) (m.map fun q => if keqD q.1 (.int i) then (q.1, z) else q) := by
    intro l m q
    induction q with
    | nil => exact .nil
    | @cons p q ps qs hq t ih =>
      rw [List.map_cons, List.map_cons]
      refine .cons ?_ ih
      obtain ⟨q1, q2⟩ := q
      obtain ⟨j, e1, e2, e3⟩ := hq
      simp only at e1
      subst e1
      rw [keq_int]
      by_cases e : j = i
      · rw [decide_eq_true e, if_pos (by rw [e2, e]), if_pos rfl]
        exact ⟨j, rfl, e2, du⟩
      · rw [decide_eq_false e, if_neg (fun z => e (by rw [e2] at z; cases z; rfl)), if_neg Bool.false_ne_true]
        exact ⟨j, rfl, e2, e3⟩
  unfold putK dput
  rw [kr_any p]
  cases e : dlook (.int i) kvs with
  | none =>
    exact paired_snoc ⟨i, rfl, rfl, du⟩ p
  | some v =>
    exact all p
theorem kr_keys {ns : List Int} : ∀ {kvs : List (PyData × PyData)} {ks : List (Key × V)}, Paired (KR F) ks kvs → kvs.map (·.1) = ns.map .int → ks.map (·.1) = ns.map Sum.inl := by
  intro kvs
  induction kvs generalizing ns with
  | nil =>
    intro ks p e
    cases p
    cases ns with
    | nil => rfl
    | cons _ _ => cases e
  | cons q qs ih =>
    intro ks p e
    cases p with
    | cons h t =>
      cases ns with
      | nil => cases e
      | cons n ns =>
        rw [List.map_cons, List.map_cons] at e
        injection e with e1 e2
        obtain ⟨j, g1, g2, _⟩ := h
        rw [g1] at e1
        cases e1
        rw [List.map_cons, List.map_cons, g2, ih t e2]
end
/-- sorted(d), keys that are tuples of ints -/
theorem row_as {h : Heap} {v : Value} {r : List Int} {as : List Addr} (q : Reads h v (rowD true r) as) : as = [] := by
  have hints : ∀ (r : List Int) (vs : List Value) (as : List Addr), ReadsAll h vs (r.map .int) as → as = [] := by
    intro r
    induction r with
    | nil =>
      intro vs as q
      cases q
      rfl
    | cons x r ih =>
      intro vs as q
      rw [List.map_cons] at q
      cases q with
      | cons q1 q2 =>
        cases q1
        rw [ih _ _ q2]
        rfl
  rw [rowD_t] at q
  cases q with
  | tuple h1 h2 h3 h4 => exact hints _ _ _ h4
def rSortN (K : PySem.W.Frag) : List V → Hp → VK → Prop := fun vs H Q => ∃ (a : Addr) (xs : List XE) (bs : List (V × List Int)), vs = [.ref a] ∧ H a = some (dctO a xs) ∧ KysR K H xs ∧ bs.map (·.1) = xs.map (fun x => V.ref x.2.1) ∧ (∀ b ∈ bs, Dp K H b.1 (rowD true b.2)) ∧ (∀ b ∈ bs, b.2 ≠ []) ∧
  ∀ (cs : List (V × List Int)) (p : Addr), cs.Perm bs → cs.map (·.2) = sortR (bs.map (·.2)) → H p = none → Q (.ref p) (upd H p (.lst (cs.map (·.1))))
theorem call_sortedN {X : Cx} (hcalm : X.calm = true) (hu : X.A.units + 65 < cLine) : CallR X (.builtin "sorted") (rSortN X.K) := by
  intro pins s σ H vs us Q I r q
  obtain ⟨a, xs, bs, ex, hd, hk, hbs, hdp, hne, q⟩ := q
  subst ex
  obtain ⟨u, eu, rx⟩ := vals1 r
  subst eu
  cases rx
  obtain ⟨lo, hz, ys, rel, dd⟩ := dct_of I hd hk
  have hys := rel.length
  obtain ⟨o, es, ep, ho, hx, hdt, he, his, hn⟩ := id dd
  have l1 : es.size = ys.length := size_of_entries he
  have hbl : bs.length = xs.length := by
    have := congrArg List.length hbs
    rwa [List.length_map, List.length_map] at this
  refine Calls.call_function_entry PyProof.Rows.kind_sorted PyProof.Rows.plain_sorted PyProof.Rows.entry_sorted (PyProof.Rows.args_sorted1 _) ?_
  unfold Builtin.«sorted»
  refine wpAny_bind (m := checkCount "sorted" 1 1 _) (wpAny_pure ?_)
  refine wpAny_bind (PySem.W.kdu_collect (A := X.A.in1) (kdl_raw lo hx hdt) (I.ok.hd hcalm) ho (by omega) fun h' tk acc hkp hacc => ?_)
  have ea : acc.toList = ys.map fun x => Value.ref x.2.1 := by
    have hl : acc.toList.length = ys.length := by rw [Array.length_toList, hacc.1]; exact l1
    apply List.ext_getElem?
    intro j
    rw [List.getElem?_map]
    cases hj : acc.toList[j]? with
    | none =>
      have h1 := List.getElem?_eq_none_iff.mp hj
      rw [List.getElem?_eq_none (by omega)]
      all_goals rfl
    | some v =>
      obtain ⟨en, hen, hv⟩ := hacc.2 j v (by rw [← Array.getElem?_toList]; exact hj)
      have qe := entry_at he j
      rw [hen] at qe
      cases hb : ys[j]? with
      | none =>
        rw [hb] at qe
        exact nomatch (show some en = none from qe)
      | some b =>
        rw [hb] at qe
        have e2 : en = entryOfKey (nestedKind X.prog X.w) b := Option.some.inj qe
        rw [hv, e2]
        all_goals rfl
  have addr : ∀ {l : List XE} {m : List (NestedKey × Addr × Value)}, YR l m → Vals (l.map fun x => V.ref x.2.1) (m.map fun x => Value.ref x.2.1) := by
    intro l m q
    induction q with
    | nil => exact .nil
    | @cons p q ps qs hq t ih =>
      rw [List.map_cons, List.map_cons]
      refine .cons ?_ ih
      rw [hq.2.1]
      rfl
  have rv : Vals (bs.map (·.1)) acc.toList := by
    rw [hbs, ea]
    exact addr rel
  have hal : acc.toList.length = bs.length := by rw [← rv.length, List.length_map]
  have I1 : Inv X pins σ H { s with heap := h', toks := tk } := I.kept hkp
  refine wpAny_bind (wpAny_newList ?_ (by rw [hal]; omega))
  have hoL : (h'.push (seqObj "list" acc.toList.toArray 0)).get? h'.objs.size = some (seqObj "list" acc.toList.toArray 0) := Heap.get?_push_size _ rfl
  show wpAny _ _ _ _ _ { s with heap := h'.push (seqObj "list" acc.toList.toArray 0), toks := tk }
  have er := each_reads (tu := true) I1 rv hdp
  have er2 : PySem.W.EachIs (fun v (b : V × List Int) => ∃ as, Reads (h'.push (seqObj "list" acc.toList.toArray 0)) v (rowD true b.2) as ∧ h'.objs.size ∉ as) acc.toList bs := er.mono fun v b ⟨as, r⟩ => by
    have e := row_as r
    subst e
    exact ⟨[], PyProof.Rows.Reads.keeps (fun b o e => Heap.get?_push_of_some _ e) r, by simp⟩
  refine wpAny_bind (wpAny_holding (PySem.W.list_sort_data (s := { s with heap := h'.push (seqObj "list" acc.toList.toArray 0), toks := tk }) (R := fun v (b : V × List Int) => RelV b.1 v) (enc := fun b => rowD true b.2) (bs := bs) hoL (each_vals rv) er2 (PySem.W.AllAlike.of fun b b' => alike_rows true _ _) (.inl fun d hd' => ?_) (by omega) (fun b _ => by
      rw [depth_row]
      show X.A.units + 1 + 1 + 1 < cLine
      omega) fun out ho2 eo => ?_))
  · obtain ⟨b, hb, rfl⟩ := List.mem_map.mp hd'
    have := hne b hb
    cases e : b.2 with
    | nil => exact absurd e this
    | cons x r => exact ⟨.int x, r.map .int, by rw [rowD_t]; rfl⟩
  obtain ⟨e', he'⟩ := PyProof.Rows.sortedHeap_at (vs := acc.toList) (out := out.toArray) hoL
  have hp : (bs.mergeSort (PySem.W.dataLe false fun b => rowD true b.2)).Perm bs := List.mergeSort_perm bs _
  have hm : (bs.mergeSort (PySem.W.dataLe false fun b => rowD true b.2)).map (·.2) = sortR (bs.map (·.2)) := by
    rw [← merge_rows]
    refine PySem.W.sort_maps (fun b : V × List Int => b.2) fun a _ b _ => ?_
    rw [PySem.W.dataLe_eq]
    show (!PySem.W.dataLt (rowD true b.2) (rowD true a.2)) = leI a.2 b.2
    rw [lt_rows]
    rfl
  refine wpAny_pure ⟨_, rfl, .ref h'.objs.size, upd H h'.objs.size (.lst ((bs.mergeSort (PySem.W.dataLe false fun b => rowD true b.2)).map (·.1))), I1.laid (t' := tk) (fun b u e => ?_) (Nat.le_refl _)
    (show ObjOk X.prog X.w _ _ _ (.lst _) from ⟨?_, out, e', vals_each eo, he'⟩), rfl, q _ _ hp hm (I1.hok.fresh (Nat.le_refl _))⟩
  · have hb : b < h'.objs.size := Heap.lt_size e
    rw [PyProof.Rows.sortedHeap_old (Nat.ne_of_lt hb) (by rw [size_push']; exact Nat.lt_succ_of_lt hb)]
    exact Heap.get?_push_of_some _ e
  · rw [List.length_map, hp.length_eq]
    omega
section
variable {g : Gc} {C : Nat → Addr} {cf : CF}
theorem snd_dct (t : Bool) : SndE g C cf (.dct t) := by
  intro c e X Wd h xc gg
  unfold ck at h
  obtain ⟨p, rfl⟩ := isDct_eq h
  have q : PE X (.Dict [] [] p) (tI X.K C Wd (ev cf (.dct t))) := by
    cases t with
    | true =>
      refine PE.imp pe_dnewN fun σr H Q ⟨F, ρ, σ, M, R, S, q⟩ p hp => ?_
      simp only [ev] at q
      have R2 := R.newO (o := dctO p []) (z := .dct true []) hp ⟨R.freshF hp, [], upd_same, .nil⟩
      exact q.step (Ext.newM hp) R2 ⟨p, by rw [← R.len, List.getElem?_append_right (Nat.le_refl _), Nat.sub_self]; rfl, rfl⟩
    | false =>
      refine PE.imp pe_dnewK fun σr H Q ⟨F, ρ, σ, M, R, S, q⟩ p hp => ?_
      simp only [ev] at q
      have R2 := R.newO (o := .dK []) (z := .dct false []) hp ⟨R.freshF hp, [], upd_same, .nil⟩
      exact q.step (Ext.newM hp) R2 ⟨p, by rw [← R.len, List.getElem?_append_right (Nat.le_refl _), Nat.sub_self]; rfl, rfl⟩
  exact ⟨q, fun _ => plain_test q trivial⟩
theorem noSl {b : Expr} (h : isSli b = false) : NoSl b := by
  intro o i
  cases b <;> first | rfl | cases h
theorem snd_dsb (a i : IE) (ha : SndE g C cf a) (hi : SndE g C cf i) : SndE g C cf (.dsb a i) := by
  intro c e X Wd h xc gg
  unfold ck at h
  split at h
  · rename_i ea ei he
    obtain ⟨p, rfl, hs⟩ := vSub_eq he
    simp only [Bool.and_eq_true] at h
    have q : PE X (.Subscript ea ei p) (tI X.K C Wd (ev cf (.dsb a i))) := by
      refine PE.imp (pe_dgetN gg.hu (ha c ea X Wd h.1 xc gg).1 (hi c ei X Wd h.2 xc gg).1 (noSl hs)) fun σr H Q ⟨F, ρ, σ, M, R, S, q⟩ => ?_
      simp only [ev] at q
      refine two_parts R S q fun {F H2 ρ M1 M2 v w x y} R rv rw q2 => ?_
      split at q2
      · rename_i n k
        split at q2
        · rename_i kvs hM
          split at q2
          · rename_i hok
            obtain ⟨a, ha', rfl⟩ := rv
            obtain ⟨hF, xs, hH, pr⟩ := R.ob n a _ ha' hM
            obtain ⟨b, kk, rfl, k1, k2, k3, k4⟩ := key_r R (show DR F w k from rw) hok
            rcases look_r k1 pr with ⟨z, u, e1, e2, e3⟩ | ⟨e1, e2⟩
            · rw [e1] at q2
              exact ⟨a, b, xs, kk, u, rfl, rfl, hH, keys_r R pr, k4, e2, out_same R e3 q2⟩
            · rw [e1] at q2
              exact q2.elim
          · exact q2.elim
        · exact q2.elim
      · exact q2.elim
    exact ⟨q, fun _ => plain_test q trivial⟩
  · cases h
theorem snd_din (n : Bool) (i a : IE) (hi : SndE g C cf i) (ha : SndE g C cf a) : SndE g C cf (.din n i a) := by
  intro c e X Wd h xc gg
  unfold ck at h
  split at h
  · rename_i ei oo ea he
    obtain ⟨p, rfl, hset⟩ := vCmp_eq he
    simp only [Bool.and_eq_true] at h
    have eo : oo = if n then .NotIn else .In := by
      cases n <;> cases oo <;> first | rfl | exact absurd h.1.1 (by decide)
    have hr : OpR X (compareOp oo) (rDinN X.K n) := by
      rw [eo]
      cases n
      · exact op_dinN gg.hu
      · exact op_dninN gg.hu
    have im : ∀ σr H Q, tI X.K C Wd (ev cf (.din n i a)) σr H Q → tOp (rDinN X.K n) (tI X.K C Wd (ev cf i)) (tI X.K C Wd (ev cf a)) σr H Q := fun σr H Q ⟨F, ρ, σ, M, R, S, q⟩ => by
      simp only [ev] at q
      refine two_parts (f := fun w M1 v M2 => match v, w with
        | .m m, .d k => match M2[m]? with
          | some (.dct true kvs) => if keyOk k then some (.val (.d (.bool (if n then !(dlook k kvs).isSome else (dlook k kvs).isSome))) M2) else none
          | _ => none
        | _, _ => none) R S q fun {F H2 ρ M1 M2 v w x y} R rv rw q2 => ?_
      split at q2
      · rename_i n' k
        split at q2
        · rename_i kvs hM
          split at q2
          · rename_i hok
            obtain ⟨a, ha', rfl⟩ := rw
            obtain ⟨hF, xs, hH, pr⟩ := R.ob n' a _ ha' hM
            obtain ⟨b, kk, rfl, k1, k2, k3, k4⟩ := key_r R (show DR F v k from rv) hok
            refine ⟨a, b, xs, kk, rfl, rfl, hH, keys_r R pr, k4, ?_⟩
            rw [← look_some k1 pr]
            exact out_bl R q2
          · exact q2.elim
        · exact q2.elim
      · exact q2.elim
    have pi := (hi c ei X Wd h.1.2 xc gg).1
    have pa := (ha c ea X Wd h.2 xc gg).1
    exact ⟨PE.imp (pe_cmpR hr pi pa (notMarks hset)) im, fun _ => PT.imp (pt_cmpR hr pi pa (notMarks hset)) fun σr H Q q => im σr H _ q⟩
  · cases h
theorem m2_of {X : Cx} {o e f : Expr} {m : Str} {p q : Pos} (h1 : notCall o = true) (h2 : (p.endLine == q.line) = true) (h3 : notStar e = true) (h4 : notStar f = true) : M2 X o m p e f q := by
  refine ⟨base_plain h1, ?_, h2, ?_⟩
  · rw [star_cons h3, star_cons h4]
    rfl
  · rw [star_cons h3, star_cons h4]
    rfl
theorem snd_dgt (a i d : IE) (ha : SndE g C cf a) (hi : SndE g C cf i) (hd : SndE g C cf d) : SndE g C cf (.dgt a i d) := by
  intro c e X Wd h xc gg
  unfold ck at h
  split at h
  · rename_i ea ei ed he
    obtain ⟨p, p', rfl, hline, hcall⟩ := vGet_eq he
    simp only [Bool.and_eq_true] at h
    obtain ⟨⟨⟨⟨h1, h2⟩, h3⟩, h4⟩, h5⟩ := h
    have q : PE X (.Call (.Attribute ea ("get" : Str) p) [ei, ed] [] p') (tI X.K C Wd (ev cf (.dgt a i d))) := by
      refine PE.imp (pe_dget2N gg.hu (ha c ea X Wd h1 xc gg).1 (hi c ei X Wd h2 xc gg).1 (hd c ed X Wd h3 xc gg).1 (m2_of hcall hline h4 h5)) fun σr H Q ⟨F, ρ, σ, M, R, S, q⟩ => ?_
      simp only [ev] at q
      refine ⟨F, ρ, σ, M, R, S, Pst.conseq (Pst.bind q) fun v1 H1 z1 => ?_⟩
      obtain ⟨F1, ρ1, w1, M1, x1, R1, r1, -, q1⟩ := z1
      split at q1
      · rename_i n
        split at q1
        · rename_i kvs0 hM0
          obtain ⟨a, ha', rfl⟩ := r1
          obtain ⟨hF0, xs0, hH0, pr0⟩ := R1.ob n a _ ha' hM0
          refine ⟨⟨a, xs0, rfl, hH0, keys_r R1 pr0⟩, F1, ρ1, σ, M1, R1, S.mono x1, Pst.conseq (Pst.bind q1) fun v2 H2 z2 => ?_⟩
          obtain ⟨F2, ρ2, w2, M2, x2, R2, r2, -, q2⟩ := z2
          refine ⟨F2, ρ2, σ, M2, R2, (S.mono x1).mono x2, Pst.conseq (Pst.bind q2) fun v3 H3 z3 => ?_⟩
          obtain ⟨F3, ρ3, w3, M3, x3, R3, r3, -, q3⟩ := z3
          split at q3
          · rename_i k y kvs hM
            split at q3
            · rename_i hok
              have ha3 : ρ3[n]? = some a := by
                obtain ⟨l, el, _⟩ := x2.p
                obtain ⟨l', el', _⟩ := x3.p
                rw [el', el]
                exact getElem?_pre (getElem?_pre ha')
              obtain ⟨hF, xs, hH, pr⟩ := R3.ob n a _ ha3 hM
              obtain ⟨b, kk, rfl, k1, k2, k3, k4⟩ := key_r R3 (DR.mono x3.f _ _ (show DR F2 v2 k from r2)) hok
              refine ⟨a, b, xs, kk, rfl, rfl, hH, keys_r R3 pr, k4, ?_⟩
              rcases look_r k1 pr with ⟨z, u, e1, e2, e3⟩ | ⟨e1, e2⟩
              · rw [e1] at q3
                rw [e2]
                exact out_same R3 e3 q3
              · rw [e1] at q3
                rw [e2]
                exact out_same R3 (show DR F3 v3 y from r3) q3
            · exact q3.elim
          · exact q3.elim
        · exact q1.elim
      · exact q1.elim
    exact ⟨q, fun _ => plain_test q trivial⟩
  · cases h
theorem snd_dln (a : IE) (ha : SndE g C cf a) : SndE g C cf (.dln a) := by
  intro c e X Wd h xc gg
  unfold ck at h
  split at h
  · rename_i x ea he
    obtain ⟨p, p', rfl⟩ := vCall_eq he
    simp only [Bool.and_eq_true, decide_eq_true_eq] at h
    obtain ⟨⟨⟨rfl, h2⟩, h3⟩, h4⟩ := h
    have pa := (ha c ea X Wd h3 xc gg).1
    have q : PE X (.Call (.Name ("len" : Str) p) [ea] [] p') (tI X.K C Wd (ev cf (.dln a))) := by
      refine PE.imp (pe_callB call_lenN (xc.gl h2) (gg.nog _ (by decide +kernel)) (show bootBuiltins "len" = some (.builtin "len") by decide +kernel) (pa_cons pa pa_nil (star_cons h4)) (by decide) (by decide) (star_cons h4) rfl) fun σr H Q ⟨F, ρ, σ, M, R, S, q⟩ => ?_
      simp only [ev] at q
      refine one_part (Q' := fun x H1 => tNil σr H1 fun xs H2 => ∃ (a : Addr) (ys : List XE), x :: xs = [.ref a] ∧ H2 a = some (dctO a ys) ∧ KysR X.K H2 ys ∧ Q (.int ((ys.length : Nat) : Int)) H2) R S q fun {F H2 ρ M1 v x} R rv q2 => ?_
      split at q2
      · rename_i n
        split at q2
        · rename_i kvs hM
          obtain ⟨a, ha', rfl⟩ := rv
          obtain ⟨hF, xs, hH, pr⟩ := R.ob n a _ ha' hM
          refine ⟨a, xs, rfl, hH, keys_r R pr, ?_⟩
          have hl : xs.length = kvs.length := Paired.length pr
          rw [hl]
          exact out_int R q2
        · exact q2.elim
      · exact q2.elim
    exact ⟨q, fun _ => plain_test q trivial⟩
  · cases h
theorem er_rows {K : PySem.W.Frag} {F : Hp} : ∀ {rs : List (List Int)} {xs : List XE} {kvs : List (PyData × PyData)}, Paired (ER F) xs kvs → kvs.map (·.1) = rs.map (rowD true) → ∃ bs : List (V × List Int), bs.map (·.1) = xs.map (fun x => V.ref x.2.1) ∧ bs.map (·.2) = rs ∧ ∀ b ∈ bs, DR F b.1 (rowD true b.2)
  | [], _, _, .nil, _ => ⟨[], rfl, rfl, fun b hb => absurd hb (by simp)⟩
  | [], _, _, .cons _ _, e => by cases e
  | r :: rs, _, _, .nil, e => by cases e
  | r :: rs, _, _, .cons (a := x) h t, e => by
    rw [List.map_cons, List.map_cons] at e
    injection e with e1 e2
    obtain ⟨bs, b1, b2, b3⟩ := er_rows (K := K) t e2
    refine ⟨(V.ref x.2.1, r) :: bs, by rw [List.map_cons, List.map_cons, b1], by rw [List.map_cons, b2], fun b hb => ?_⟩
    rcases List.mem_cons.mp hb with e | e
    · rw [e]
      have := h.2.2.1
      rw [e1] at this
      exact this
    · exact b3 b e
theorem snd_dso (a : IE) (ha : SndE g C cf a) : SndE g C cf (.dso a) := by
  intro c e X Wd h xc gg
  unfold ck at h
  split at h
  · rename_i x ea he
    obtain ⟨p, p', rfl⟩ := vCall_eq he
    simp only [Bool.and_eq_true, decide_eq_true_eq] at h
    obtain ⟨⟨⟨rfl, h2⟩, h3⟩, h4⟩ := h
    have pa := (ha c ea X Wd h3 xc gg).1
    have q : PE X (.Call (.Name ("sorted" : Str) p) [ea] [] p') (tI X.K C Wd (ev cf (.dso a))) := by
      refine PE.imp (pe_callB (CallR.or (call_sortedDI gg.calm) (call_sortedN gg.calm gg.hu)) (xc.gl h2) (gg.nog _ (by decide +kernel)) (show bootBuiltins "sorted" = some (.builtin "sorted") by decide +kernel) (pa_cons pa pa_nil (star_cons h4)) (by decide) (by decide) (star_cons h4) rfl) fun σr H Q ⟨F, ρ, σ, M, R, S, q⟩ => ?_
      simp only [ev] at q
      refine one_part (Q' := fun x H1 => tNil σr H1 fun xs H2 => (∃ (a : Addr) (kvs : List (Key × V)) (ks : List Int), x :: xs = [.ref a] ∧ Rd H2 a (.dK kvs) ∧ kvs.map (·.1) = ks.map Sum.inl ∧ ks.length < 64 ∧
    ∀ (ys : List Int) (p : Addr), ys.Perm ks → ys.Pairwise (· ≤ ·) → H2 p = none → Q (.ref p) (upd H2 p (.lst (ys.map V.int)))) ∨ rSortN X.K (x :: xs) H2 Q) R S q fun {F H2 ρ M1 v x} R rv q2 => ?_
      split at q2
      · rename_i n
        split at q2
        · rename_i t kvs hM
          obtain ⟨a, ha', rfl⟩ := rv
          have ob := R.ob n a _ ha' hM
          cases hz : dsortD t kvs with
          | none =>
            rw [hz] at q2
            exact q2.elim
          | some z =>
            rw [hz] at q2
            unfold dsortD at hz
            cases t with
            | true =>
              simp only [if_true] at hz
              obtain ⟨rs, hr, rfl⟩ := map_inv hz
              obtain ⟨i1, i2⟩ := rowsD_eq hr
              obtain ⟨hF, xs, hH, pr⟩ := ob
              obtain ⟨bs, b1, b2, b3⟩ := er_rows (K := X.K) pr i1
              subst b2
              refine .inr ⟨a, xs, bs, rfl, hH, keys_r R pr, b1, fun y hy => DR.dp R.sub _ _ (b3 y hy), fun y hy => i2 _ (List.mem_map.mpr ⟨y, hy, rfl⟩), fun cs p hp hs hn => ?_⟩
              have dc := rows_of (tu := true) (F := F) (cs := cs) fun b hb => b3 b (hp.mem_iff.mp hb)
              rw [hs] at dc
              exact out_lst R dc q2 p hn
            | false =>
              simp only [Bool.false_eq_true, if_false] at hz
              split at hz
              · rename_i ns hi
                split at hz
                · rename_i h64
                  cases hz
                  obtain ⟨hF, ks, hH, pr⟩ := ob
                  refine .inl ⟨a, ks, ns, rfl, .of hH, kr_keys pr (intsD_eq hi), h64, fun ns' p hp hs hn => ?_⟩
                  have en : ns' = sortI ns := sorted_one (hp.trans (sortI_perm ns).symm) hs (sortI_sorted ns)
                  rw [en]
                  exact out_lst R (DRs.of_ints _) q2 p hn
                · cases hz
              · cases hz
        · exact q2.elim
      · exact q2.elim
    exact ⟨q, fun _ => plain_test q trivial⟩
  · cases h
theorem rg_drs {F : Hp} : ∀ (n : Nat) (i : Int), DRs F ((List.range n).map fun k => V.int (i + (k : Nat))) (rngL i n)
  | 0, _ => .nil
  | n + 1, i => by
    rw [List.range_succ_eq_map, List.map_cons, List.map_map]
    unfold rngL
    refine .cons ?_ ?_
    · show DR F (.int (i + ((0 : Nat) : Int))) (.int i)
      rw [Int.natCast_zero, Int.add_zero]
      exact .int i
    · have := rg_drs (F := F) n (i + 1)
      have e : ((fun k => V.int (i + (k : Nat))) ∘ Nat.succ) = fun k => V.int (i + 1 + (k : Nat)) := by
        funext k
        show V.int (i + ((k + 1 : Nat) : Int)) = V.int (i + 1 + (k : Int))
        congr 1
        omega
      rw [e]
      exact this
theorem lr_fin {X : Cx} {tu mu : Bool} {F H1 : Hp} {ρ : List Addr} {M : MH} {i j : Int} {E : Nat → Hp → Prop} {Q : V → Hp → Prop} (R : Rl X.K C F H1 ρ M) (q : Pst X.K C F H1 ρ E Q (lrV tu mu i j M)) :
    RgOk i j ∧ ∀ q, H1 q = none → Q (.ref q) (upd H1 q (if tu then .tup (rgV i j) else .lst (rgV i j))) := by
  unfold lrV at q
  split at q
  · rename_i hc
    obtain ⟨si, sj, _⟩ := hc
    unfold smallI at si sj
    rw [Bool.and_eq_true, decide_eq_true_eq, decide_eq_true_eq] at si sj
    refine ⟨⟨by omega, by omega, by omega, by omega, by omega⟩, fun p hp => ?_⟩
    have d := rg_drs (F := F) (j - i).toNat i
    cases tu with
    | true => exact out_tup R d q p hp
    | false => exact out_newL R d q p hp
  · exact q.elim
theorem lr_pe {X : Cx} {tu : Bool} {t : TE} {l : List Expr} {p p1 p2 p3 : Pos} {te : L2.St → Hp → (Int → Int → Hp → Prop) → Prop} {Wd : WX} {c : Cc} (xc : XC X c) (gg : G g C cf X Wd) (h1 : glbB c (if tu then ("tuple" : Str) else ("list" : Str)) = true) (hrg : PRg X (.Call (.Name ("range" : Str) p1) l [] p2) te)
    (im : ∀ σr H (Q : V → Hp → Prop), t σr H Q → te σr H fun a b H1 => RgOk a b ∧ ∀ q, H1 q = none → Q (.ref q) (upd H1 q (if tu then .tup (rgV a b) else .lst (rgV a b)))) :
    PE X (.Call (.Name (if tu then ("tuple" : Str) else ("list" : Str)) p) [.Call (.Name ("range" : Str) p1) l [] p2] [] p3) t := by
  cases tu with
  | true => exact PE.imp (pe_tupRg gg.calm (xc.gl h1) (gg.nog _ (by decide +kernel)) hrg) fun σr H Q q => im σr H Q q
  | false => exact PE.imp (pe_listRg gg.calm (xc.gl h1) (gg.nog _ (by decide +kernel)) hrg) fun σr H Q q => im σr H Q q
theorem snd_lr1 (tu mu : Bool) (b : IE) (hb : SndE g C cf b) : SndE g C cf (.lr1 tu mu b) := by
  intro c e X Wd h xc gg
  unfold ck at h
  split at h
  · rename_i x y eb he
    obtain ⟨p, p1, p2, p3, rfl⟩ := vLrg_eq he
    simp only [Bool.and_eq_true, decide_eq_true_eq] at h
    obtain ⟨⟨⟨⟨⟨rfl, rfl⟩, h1⟩, h2⟩, h3⟩, h4⟩ := h
    have q : PE X (.Call (.Name (if tu then ("tuple" : Str) else ("list" : Str)) p) [.Call (.Name ("range" : Str) p1) [eb] [] p2] [] p3) (tI X.K C Wd (ev cf (.lr1 tu mu b))) := by
      refine lr_pe xc gg h1 (prg_1 (xc.gl h2) (gg.nog _ (by decide +kernel)) (hb c eb X Wd h3 xc gg).1 (star_cons h4)) fun σr H Q ⟨F, ρ, σ, M, R, S, q⟩ => ?_
      simp only [ev] at q
      refine one_part (Q' := fun x H1 => ∃ n, x = .int n ∧ (RgOk 0 n ∧ ∀ q, H1 q = none → Q (.ref q) (upd H1 q (if tu then .tup (rgV 0 n) else .lst (rgV 0 n))))) R S q fun {F H2 ρ M1 v x} R rv q2 => ?_
      split at q2
      · exact ⟨_, VR.int rv, lr_fin R q2⟩
      · exact q2.elim
    exact ⟨q, fun _ => plain_test q trivial⟩
  · cases h
theorem snd_lr2 (tu mu : Bool) (a b : IE) (ha : SndE g C cf a) (hb : SndE g C cf b) : SndE g C cf (.lr2 tu mu a b) := by
  intro c e X Wd h xc gg
  unfold ck at h
  split at h
  · rename_i x y ea eb he
    obtain ⟨p, p1, p2, p3, rfl⟩ := vLrg_eq he
    simp only [Bool.and_eq_true, decide_eq_true_eq] at h
    obtain ⟨⟨⟨⟨⟨⟨⟨rfl, rfl⟩, h1⟩, h2⟩, h3⟩, h4⟩, h5⟩, h6⟩ := h
    have q : PE X (.Call (.Name (if tu then ("tuple" : Str) else ("list" : Str)) p) [.Call (.Name ("range" : Str) p1) [ea, eb] [] p2] [] p3) (tI X.K C Wd (ev cf (.lr2 tu mu a b))) := by
      refine lr_pe xc gg h1 (prg_2 (xc.gl h2) (gg.nog _ (by decide +kernel)) (ha c ea X Wd h3 xc gg).1 (hb c eb X Wd h4 xc gg).1 (star_cons h5) (star_cons h6) (by rw [star_cons h6]; rfl)) fun σr H Q ⟨F, ρ, σ, M, R, S, q⟩ => ?_
      simp only [ev] at q
      refine two_parts (r := fun x y H1 Q => ∃ i j, x = .int i ∧ y = .int j ∧ (RgOk i j ∧ ∀ q, H1 q = none → Q (.ref q) (upd H1 q (if tu then .tup (rgV i j) else .lst (rgV i j))))) R S q fun {F H2 ρ M1 M2 v w x y} R rv rw q2 => ?_
      split at q2
      · exact ⟨_, _, VR.int rv, VR.int rw, lr_fin R q2⟩
      · exact q2.elim
    exact ⟨q, fun _ => plain_test q trivial⟩
  · cases h
theorem fmt_ok {F H : Hp} {K : PySem.W.Frag} {ρ : List Addr} {v : V} {w : W} {s : Str} {Q : V → Hp → Prop} (d : VR K F ρ v w) (h : fmtW w = some s) : s.length ≤ cap ∧ (Q (.str s) H → (∃ y : Str, v = .str y ∧ y.length ≤ sizeLine ∧ Q (.str y) H) ∨ ∃ i : Int, v = .int i ∧ i.natAbs.log2 < 1920 ∧ Q (.str (toString i)) H) := by
  cases w with
  | d x =>
    have d' : DR F v x := d
    have h' : fmtD x = some s := h
    unfold fmtD at h'
    split at h'
    · split at h'
      · rename_i hc
        cases h'
        cases d'
        exact ⟨hc, fun q => .inl ⟨_, rfl, capS hc, q⟩⟩
      · cases h'
    · split at h'
      · rename_i hc
        cases h'
        cases d'
        exact ⟨hc.2, fun q => .inr ⟨_, rfl, log_small hc.1, q⟩⟩
      · cases h'
    · cases h'
  | _ => cases h
theorem len_empty (s : Str) : (Str.empty ++ s).length = s.length := by
  rw [Str.length_append]
  show 0 + s.length = s.length
  omega
theorem snd_fst (a b : IE) (ha : SndE g C cf a) (hb : SndE g C cf b) : SndE g C cf (.fst a b) := by
  intro c e X Wd h xc gg
  unfold ck at h
  split at h
  · rename_i ea eb he
    obtain ⟨p, p1, k, p2, p3, rfl⟩ := vFst_eq he
    simp only [Bool.and_eq_true] at h
    have q : PE X (.JoinedStr [.FormattedValue ea (-1) none p, .Constant (.str (":" : Str)) k p1, .FormattedValue eb (-1) none p2] p3) (tI X.K C Wd (ev cf (.fst a b))) := by
      refine PE.imp (pe_joined (.cons (pe_fmt (ha c ea X Wd h.1 xc gg).1) (.cons pe_str (.cons (pe_fmt (hb c eb X Wd h.2 xc gg).1) .nil)))) fun σr H Q ⟨F, ρ, σ, M, R, S, q⟩ => ?_
      simp only [ev] at q
      refine ⟨F, ρ, σ, M, R, S, Pst.conseq (Pst.bind q) fun v1 H1 ⟨F1, ρ1, w1, M1, x1, R1, r1, _, q1⟩ => ?_⟩
      split at q1
      · rename_i s hs
        obtain ⟨k1, k2⟩ := fmt_ok (H := H1) (Q := fun x H1 => ∃ y : Str, x = .str y ∧ (Str.empty ++ y).length ≤ sizeLine ∧ tJs [tC (.str (":" : Str)), tFmt (tI X.K C Wd (ev cf b))] (Str.empty ++ y) σr H1 fun out H1 => Q (.str out) H1) r1 hs
        have l1 : (":" : Str).length = 1 := by decide
        refine k2 ⟨s, rfl, by rw [len_empty]; exact capS k1, (":" : Str), rfl, by
          rw [Str.length_append, len_empty, l1, sizeLine_eq]
          have : s.length ≤ 100000 := k1
          omega, F1, ρ1, σ, M1, R1, S.mono x1, Pst.conseq (Pst.bind q1) fun v2 H2 ⟨F2, ρ2, w2, M2, x2, R2, r2, _, q2⟩ => ?_⟩
        split at q2
        · rename_i r hr
          split at q2
          · rename_i hc
            obtain ⟨m1, m2⟩ := fmt_ok (H := H2) (Q := fun x H1 => ∃ y : Str, x = .str y ∧ (Str.empty ++ s ++ (":" : Str) ++ y).length ≤ sizeLine ∧ tJs [] (Str.empty ++ s ++ (":" : Str) ++ y) σr H1 fun out H1 => Q (.str out) H1) r2 hr
            refine m2 ⟨r, rfl, ?_, out_str R2 q2⟩
            rw [Str.length_append, Str.length_append, len_empty, l1, sizeLine_eq]
            have : s.length + r.length ≤ 100000 := hc
            omega
          · exact q2.elim
        · exact q2.elim
      · exact q1.elim
    exact ⟨q, fun _ => plain_test q trivial⟩
  · cases h
end
end Wl

set_option Elab.async false
set_option linter.all false
set_option maxRecDepth 100000
set_option maxHeartbeats 1000000
namespace Wl
open PySem PySem.Spec PyProof.Rows L2
/-! ### sorted(set(e)) -/
section
variable {P : Program} {w : World} {A : Around} {E : Value → Shared → Prop} {s : Shared}
set_option maxRecDepth 100000 in
set_option maxHeartbeats 3200000 in
/-- set(a list of ints): the library's set_update_ints over a list's walk -/
theorem call_set_lstI {l : Addr} {items : Array Value} (ns : List Int) {Q : Value → Shared → Prop} (hh : A.handled = none) (hl : s.heap.IsList l items) (hit : IntsAre items.toList ns) (hb : ns.length + 1 < scanBound)
    (h : ∀ (h' : Heap) (tk c : Nat), SetR w h' s.heap.objs.size (fun j => decide (j ∈ ns)) c → c ≤ ns.length → (∀ b o, s.heap.get? b = some o → h'.get? b = some o) → Q (.ref s.heap.objs.size) { s with heap := h', toks := tk }) :
    wpAny (model P w) A (call (.type "set") [.ref l]) Q E s := by
  have hisz : items.size = ns.length := by
    have q := IntsAre.length hit
    rw [Array.length_toList] at q
    exact q
  obtain ⟨c, tl, hmro⟩ := F.called_set.mro
  have hmade := F.called_set.made
  have hsub := F.called_set.sub
  refine wpAny_call (codeAny_of_tree ?_)
  show wpAny _ _ (callAny (.type "set") _) _ _ _
  refine wpAny_pure ⟨Code.quiet_builtin _ (by decide +kernel), codeAny_builtin F.entry_type_call ?_⟩
  rw [Around.under_plain (weight_type_call_type "set" [.ref l] []) rfl]
  have h1 := F.called_set.notType
  have h2 := F.called_set.canCreate
  have hct := F.typeCall_set_1 (.ref l)
  repeat (any_goals (first | assumption | wp_step))
  obtain ⟨fresh, hfr⟩ : ∃ o : Obj, o = { cls := .type "set", dict := none, data := .set #[] 0 (.fresh 0 0 (!w.params.followText "set-order")) } := ⟨_, rfl⟩
  refine codeAny_mono (code_set_led1 (.ref l) (E := E) (Q₁ := fun obj s₁ => obj = .ref s.heap.objs.size ∧ s₁ = { s with heap := s.heap.push fresh }) (by rw [hfr]; exact ⟨rfl, rfl⟩)) fun r s₁ hr => ?_
  cases r with
  | error e => exact hr
  | ok fl =>
    cases fl with
    | ret obj =>
      obtain ⟨rfl, rfl⟩ := hr
      subst hfr
      have hS : (s.heap.push { cls := .type "set", dict := none, data := .set #[] 0 (.fresh 0 0 (!w.params.followText "set-order")) }).get? s.heap.objs.size = some { cls := .type "set", dict := none, data := .set #[] 0 (.fresh 0 0 (!w.params.followText "set-order")) } := Heap.get?_push_size _ rfl
      have hT : Shared.TypeIs { s with heap := s.heap.push { cls := .type "set", dict := none, data := .set #[] 0 (.fresh 0 0 (!w.params.followText "set-order")) } } (.ref s.heap.objs.size) "set" := ⟨_, hS, rfl⟩
      have hli := F.called_set.init.lookup
      have hbi := F.called_set.init.bind (.ref s.heap.objs.size)
      repeat (any_goals (first | assumption | wp_step))
      refine codeAny_mono (codeAny_call_builtin (R := wants (fun r s₂ => r = .none ∧ ∃ h' tk c, s₂ = { s with heap := h', toks := tk } ∧ SetR w h' s.heap.objs.size (fun j => decide (j ∈ ns)) c ∧ c ≤ ns.length ∧
          (∀ b o, s.heap.get? b = some o → h'.get? b = some o)) E) F.called_set.init.plain F.entry_set_init (check_set_init_1 hT ?_)) fun r₂ s₂ hr₂ => ?_
      · obtain ⟨ol, hol, hcl, nl, hdl⟩ := hl
        obtain ⟨ocls, odict, odata, oslots⟩ := ol
        simp only at hcl hdl
        subst hcl; subst hdl
        have hol' : (s.heap.push { cls := .type "set", dict := none, data := .set #[] 0 (.fresh 0 0 (!w.params.followText "set-order")) }).get? l = some { cls := .type "list", dict := odict, data := .seq items nl, slots := oslots } := Heap.get?_push_of_some _ hol
        have hsls := F.sub_list_set
        have hslf := F.sub_list_frozenset
        have hne : (Value.type "list" == Value.type "dict") = false := by decide
        have hl1 : (s.heap.push { cls := .type "set", dict := none, data := .set #[] 0 (.fresh 0 0 (!w.params.followText "set-order")) }).IsList l items := ⟨_, hol', rfl, nl, rfl⟩
        unfold Builtin.«set.__init__» noKeywords Builtin.Frozenset.updateFrom
        generalize hPI : pyIter = PI
        wp_walk
        subst hPI
        refine wpAny_pyIter_list hl1 ?_
        refine wpAny_bind (wpAny_runValue ?_)
        have hlS : l < s.heap.objs.size := Heap.lt_size hol
        have hh3 : A.in1.in1.in1.handled = none := by simp [hh]
        have hneI : l ≠ (s.heap.push { cls := .type "set", dict := none, data := .set #[] 0 (.fresh 0 0 (!w.params.followText "set-order")) }).objs.size := by
          rw [Heap.size_push]; exact Nat.ne_of_lt (Nat.lt_succ_of_lt hlS)
        have hSf : s.heap.objs.size ∉ [(s.heap.push { cls := .type "set", dict := none, data := .set #[] 0 (.fresh 0 0 (!w.params.followText "set-order")) }).objs.size, l] := by
          rw [Heap.size_push]; simp only [List.mem_cons, List.mem_singleton, List.not_mem_nil, or_false, not_or]
          exact ⟨Nat.ne_of_lt (Nat.lt_succ_self _), Nat.ne_of_gt hlS⟩
        have hval : ∀ (i : Nat) (v : Value), items[i]? = some v → ∃ k t, ns[i]? = some k ∧ v = .int k t := fun i v hv => by
          have hi : i < ns.length := by rw [← hisz]; exact (Array.getElem?_eq_some_iff.mp hv).1
          obtain ⟨t, e⟩ := PyProof.Rows.IntsAre.int_at hit i v (by rw [Array.getElem?_toList]; exact hv)
          refine ⟨ns[i], t, List.getElem?_eq_getElem hi, ?_⟩
          rw [e, List.getD_eq_getElem?_getD, List.getElem?_eq_getElem hi] <;> rfl
        refine set_update_ints ((Walks.list hh3 _ l hneI items).toS) s.heap.objs.size
          hSf ns hisz hb hval (items.size - 0) 0 _ (by omega) (Nat.zero_le _)
          ⟨⟨_, Heap.get?_push_size _ rfl, rfl, rfl⟩, (hl1.push _)⟩ ?hS0 ?hR
        case hS0 =>
          have hget : ((s.heap.push { cls := .type "set", dict := none, data := .set #[] 0 (.fresh 0 0 (!w.params.followText "set-order")) }).push { cls := .type "list_iterator", data := .fields #[.ref l, .int 0 0] }).get? s.heap.objs.size
              = some { cls := .type "set", dict := none, data := .set #[] 0 (.fresh 0 0 (!w.params.followText "set-order")) } := Heap.get?_push_of_some _ hS
          exact ⟨0, Nat.le_refl 0, setR_new_at hget⟩
        case hR =>
          intro s' c' hm hc' hS'
          obtain ⟨h', g2, d', tk', os'⟩ := s'
          have eg : g2 = s.gens := hm.gens
          have ed : d' = s.drawn := hm.drawn
          have eo : os' = s.os := hm.os
          subst eg; subst ed; subst eo
          show wpAny _ _ _ _ _ _
          refine wpAny_pure ?_
          show wpAny _ _ (PySem.ret Value.none) _ _ _
          rw [hisz] at hc'
          refine wpAny_pure ⟨rfl, h', tk', c', rfl, hS', hc', fun b o e => ?_⟩
          have hb0 : b < s.heap.objs.size := Heap.lt_size e
          have hb1 : b ≠ s.heap.objs.size := Nat.ne_of_lt hb0
          have hb2 : b ≠ (s.heap.push { cls := .type "set", dict := none, data := .set #[] 0 (.fresh 0 0 (!w.params.followText "set-order")) }).objs.size := by
            rw [Heap.size_push]; exact Nat.ne_of_lt (Nat.lt_succ_of_lt hb0)
          exact hm.heap b o (by simp only [List.mem_cons, List.mem_singleton, List.not_mem_nil, or_false, not_or]; exact ⟨hb1, hb2⟩) (Heap.get?_push_of_some _ (Heap.get?_push_of_some _ e))
      · cases r₂ with
        | error e => exact hr₂
        | ok fl₂ =>
          cases fl₂ with
          | ret r =>
            obtain ⟨rfl, h', tk, c', rfl, hS', hc', hk'⟩ := hr₂
            repeat (any_goals (first | assumption | wp_step))
            exact h _ _ _ hS' hc' hk'
          | _ => exact hr₂.elim
    | _ => exact hr.elim
end
section
variable {X : Cx}
/-- set(l), a list of few ints -/
def rSetL (K : PySem.W.Frag) (w : World) : List V → Hp → VK → Prop := fun xs H Q => ∃ (p : Addr) (ns : List Int), xs = [.ref p] ∧ SqL K H p (ns.map V.int) ∧ ns.length ≤ 1000 ∧ ∀ (a : Addr) (c : Nat), c ≤ ns.length → H a = none → Q (.ref a) (upd H a (SetO w a (fun j => decide (j ∈ ns)) c))
theorem cr_setL (hc : X.calm = true) : CallR X (.type "set") (rSetL X.K X.w) := by
  intro pins s σ H xs us Q I r h
  obtain ⟨p, ns, rfl, hq, hl, q⟩ := h
  obtain ⟨its, rv, pt, hz⟩ := I.list hq
  rw [Vals.ref1 r]
  refine call_set_lstI ns (I.ok.hd hc) pt.isList rv.ints (by unfold scanBound; omega) fun h' tk c R1 hcn k => ?_
  have hn : H s.heap.objs.size = none := I.hok.fresh (Nat.le_refl _)
  exact ⟨.ref _, upd H s.heap.objs.size (SetO X.w s.heap.objs.size (fun j => decide (j ∈ ns)) c), I.laid (t' := tk) (fun b u e => k b u e) (Nat.le_refl _) (setO_new R1), rfl, q _ c hcn hn⟩
end
theorem nub_mem {y : Int} : ∀ {l : List Int}, y ∈ nubI l ↔ y ∈ l
  | [] => Iff.rfl
  | x :: r => by
    have ih := nub_mem (y := y) (l := r)
    unfold nubI
    by_cases h : x ∈ r
    · rw [if_pos h, ih, List.mem_cons]
      exact ⟨.inr, fun e => e.elim (fun e => e ▸ h) id⟩
    · rw [if_neg h, List.mem_cons, List.mem_cons, ih]
theorem nub_nodup : ∀ l : List Int, (nubI l).Nodup
  | [] => List.nodup_nil
  | x :: r => by
    unfold nubI
    by_cases h : x ∈ r
    · rw [if_pos h]
      exact nub_nodup r
    · rw [if_neg h]
      exact List.nodup_cons.mpr ⟨fun e => h (nub_mem.mp e), nub_nodup r⟩
theorem strict_le {l : List Int} (h : l.Pairwise (· < ·)) : l.Pairwise (· ≤ ·) := h.imp fun {a b} q => Int.le_of_lt q
theorem sorted_nub {ns out : List Int} (h : out.Pairwise (· < ·)) (hm : ∀ k, k ∈ out ↔ decide (k ∈ ns) = true) : out = sortI (nubI ns) := by
  refine sorted_one ?_ (strict_le h) (sortI_sorted _)
  refine List.Perm.trans ?_ (sortI_perm _).symm
  refine (List.perm_ext_iff_of_nodup (h.imp fun {a b} q => Int.ne_of_lt q) (nub_nodup ns)).mpr fun k => ?_
  rw [hm k, decide_eq_true_eq, nub_mem]
section
variable {g : Gc} {C : Nat → Addr} {cf : CF}
theorem snd_sse (a : IE) (ha : SndE g C cf a) : SndE g C cf (.sse a) := by
  intro c e X Wd h xc gg
  unfold ck at h
  split at h
  · rename_i x y ea he
    obtain ⟨p, p1, p2, p3, rfl⟩ := vLrg_eq he
    simp only [Bool.and_eq_true, decide_eq_true_eq] at h
    obtain ⟨⟨⟨⟨⟨rfl, rfl⟩, h1⟩, h2⟩, h3⟩, h4⟩ := h
    have pa := (ha c ea X Wd h3 xc gg).1
    have pi := pe_callTy (pos := p2) (p := p1) (cr_setL gg.calm) (xc.gl h2) (gg.nog _ (by decide +kernel)) (show bootBuiltins "set" = some (.type "set") by decide +kernel) (pa_cons pa pa_nil (star_cons h4)) (by decide) (by decide) (star_cons h4) rfl
    have q : PE X (.Call (.Name ("sorted" : Str) p) [.Call (.Name ("set" : Str) p1) [ea] [] p2] [] p3) (tI X.K C Wd (ev cf (.sse a))) := by
      refine PE.imp (pe_callB (cr_sortedSet gg.calm) (xc.gl h1) (gg.nog _ (by decide +kernel)) (show bootBuiltins "sorted" = some (.builtin "sorted") by decide +kernel) (pa_cons pi pa_nil (star_cons rfl)) (by decide) (by decide) (star_cons rfl) rfl) fun σr H Q ⟨F, ρ, σ, M, R, S, q⟩ => ?_
      simp only [ev] at q
      refine one_part (Q' := fun x H1 => tNil σr H1 fun xs H2 => rSetL X.K X.w (x :: xs) H2 fun y H3 => tNil σr H3 fun ys H4 => rSortedSet X.w (y :: ys) H4 Q) R S q fun {F H2 ρ M1 v x} R rv q2 => ?_
      split at q2
      · rename_i xs
        split at q2
        · rename_i ns hi
          split at q2
          · rename_i h64
            obtain ⟨b, us, rfl, s, d⟩ := VR.viewL R rv (show Wl.view M1 (.d (.list xs)) = some (.list xs) from rfl)
            rw [d.ints hi] at s
            refine ⟨b, ns, rfl, s, by omega, fun z cnt hz hn => ?_⟩
            refine ⟨z, _, cnt, rfl, upd_same, by omega, fun out p hs hm _ hp => ?_⟩
            rw [sorted_nub hs hm]
            exact out_lst (R.newH hn) (DRs.of_ints _) (Pst.mono (Ext.newH hn) q2) p hp
          · exact q2.elim
        · exact q2.elim
      · exact q2.elim
    exact ⟨q, fun _ => plain_test q trivial⟩
  · cases h
end
end Wl

set_option Elab.async false
set_option linter.all false
set_option maxRecDepth 100000
set_option maxHeartbeats 1000000
namespace Wl
open PySem PySem.Spec PyProof.Rows L2
/-! ### objects of one own class -/
section
variable {K : PySem.W.Frag} {C : Nat → Addr} {F H : Hp} {ρ : List Addr} {M : MH}
theorem zip_look : ∀ (k : Nat) (vs : List V) (f : Str) (v : V), atNs[k]? = some f → vs[k]? = some v → (atNs.zip vs).lookup f = some v
  | 0, [], _, _, _, h => by cases h
  | 0, v :: vs, f, u, e, h => by cases e; cases h; rfl
  | 1, [], _, _, _, h => by cases h
  | 1, [_], _, _, _, h => by cases h
  | 1, _ :: v :: vs, f, u, e, h => by cases e; cases h; rfl
  | 2, [], _, _, _, h => by cases h
  | 2, [_], _, _, _, h => by cases h
  | 2, [_, _], _, _, _, h => by cases h
  | 2, _ :: _ :: v :: vs, f, u, e, h => by cases e; cases h; rfl
  | 3, [], _, _, _, h => by cases h
  | 3, [_], _, _, _, h => by cases h
  | 3, [_, _], _, _, _, h => by cases h
  | 3, [_, _, _], _, _, _, h => by cases h
  | 3, _ :: _ :: _ :: v :: vs, f, u, e, h => by cases e; cases h; rfl
  | k + 4, _, _, _, e, _ => by cases e
theorem zip_none : ∀ (vs : List V) (m : Str), atNs.contains m = false → (atNs.zip vs).lookup m = none := by
  intro vs m h
  cases e : (atNs.zip vs).lookup m with
  | none => rfl
  | some v =>
    have : m ∈ atNs := by
      have q : ∀ (l : List (Str × V)), l.lookup m = some v → m ∈ l.map (·.1) := by
        intro l
        induction l with
        | nil => intro z; cases z
        | cons p r ih =>
          intro z
          rw [List.lookup_cons] at z
          cases w : (m == p.1) with
          | true => exact List.mem_cons.mpr (.inl (beq_iff_eq.mp w))
          | false =>
            rw [w] at z
            exact List.mem_cons.mpr (.inr (ih z))
      have q2 := q _ e
      obtain ⟨p, hp, rfl⟩ := List.mem_map.mp q2
      exact (List.of_mem_zip (a := p.1) (b := p.2) hp).1
    have h2 : atNs.contains m = true := List.contains_iff_mem.mpr this
    rw [h] at h2
    cases h2
theorem zip_put (k : Nat) (f : Str) (v : V) (vs : List V) (hf : atNs[k]? = some f) (hl : vs.length ≤ 4) (hk : k ≤ vs.length) : putF f v (atNs.zip vs) = atNs.zip (if k < vs.length then vs.set k v else vs ++ [v]) := by
  match k, hf with
  | 0, hf =>
    cases hf
    match vs, hl with
    | [], _ => rfl
    | a :: r, _ => rfl
  | 1, hf =>
    cases hf
    match vs, hl, hk with
    | [], _, hk => exact absurd hk (by simp)
    | [a], _, _ => rfl
    | a :: b :: r, _, _ => rfl
  | 2, hf =>
    cases hf
    match vs, hl, hk with
    | [], _, hk => exact absurd hk (by simp)
    | [a], _, hk => exact absurd hk (by simp)
    | [a, b], _, _ => rfl
    | a :: b :: c :: r, _, _ => rfl
  | 3, hf =>
    cases hf
    match vs, hl, hk with
    | [], _, hk => exact absurd hk (by simp)
    | [a], _, hk => exact absurd hk (by simp)
    | [a, b], _, hk => exact absurd hk (by simp)
    | [a, b, c], _, _ => rfl
    | a :: b :: c :: d :: r, _, _ => rfl
  | k + 4, hf => cases hf
theorem zip_len (vs : List V) : (atNs.zip vs).length < 1000 := by
  rw [List.length_zip]
  have : atNs.length = 4 := rfl
  omega
end
section
variable {g : Gc} {C : Nat → Addr} {cf : CF}
theorem snd_att (a : IE) (k : Nat) (ha : SndE g C cf a) : SndE g C cf (.att a k) := by
  intro c e X Wd h xc gg
  unfold ck at h
  split at h
  · rename_i ea f he
    obtain ⟨p, rfl, hcall⟩ := vAtt_eq he
    simp only [Bool.and_eq_true, decide_eq_true_eq] at h
    obtain ⟨⟨h1, h2⟩, h3⟩ := h
    obtain ⟨hc, hn⟩ := gg.sl h1
    have q : PE X (.Attribute ea f p) (tI X.K C Wd (ev cf (.att a k))) := by
      refine PE.imp (pe_fld (ha c ea X Wd h3 xc gg).1 (base_plain hcall)) fun σr H Q ⟨F, ρ, σ, M, R, S, q⟩ => ?_
      simp only [ev] at q
      refine one_part (Q' := fun x H1 => ∃ a C dx fs v, x = .ref a ∧ H1 a = some (.ins C dx fs) ∧ Cls X.K C ∧ NoAttr X.K C f ∧ fs.lookup f = some v ∧ Q v H1) R S q fun {F H2 ρ M1 v x} R rv q2 => ?_
      split at q2
      · rename_i n
        split at q2
        · rename_i ws hM
          split at q2
          · rename_i w hw
            obtain ⟨a', ha', rfl⟩ := rv
            obtain ⟨hF, h0, dx, vs, hH, hvs⟩ := R.ob n a' _ ha' hM
            obtain ⟨v, hv, rv⟩ := hvs.get hw
            exact ⟨a', C 6, dx, _, v, rfl, hH, hc, hn f (List.mem_of_getElem? h2), zip_look k vs f v h2 hv, q2.here R rv⟩
          · exact q2.elim
        · exact q2.elim
      · exact q2.elim
    exact ⟨q, fun _ => plain_test q trivial⟩
  · cases h
theorem VRs.dropLast {K : PySem.W.Frag} {F : Hp} {ρ : List Addr} : ∀ {vs : List V} {ws : List W}, VRs K F ρ vs ws → VRs K F ρ vs.dropLast ws.dropLast
  | _, _, .nil => .nil
  | [_], [_], .cons _ .nil => .nil
  | _ :: _ :: _, _ :: _ :: _, .cons q (.cons q2 r) => .cons q (VRs.dropLast (.cons q2 r))
/-! calls of methods -/
theorem mct_tree {o : Expr} {m : Str} {apos pos : Pos} {es : List Expr} {env : Env} (hb : notCall o = true) (hl : (apos.endLine == pos.line) = true) (hf : methodCallForm (es.length + 0) (backTo pos (starEach es env)) (backToKw pos (keywordEach [] env)) = true) :
    eval (.Call (.Attribute o m apos) es [] pos) env = (do
      let ov ← eval o env
      standAt apos.atName
      let (f, first) ← holding [ov] (getMethod ov m (plainOf o env))
      callWith pos f first (backTo pos (starEach es env)) (backToKw pos (keywordEach [] env))) := mcall_of (base_plain hb) fun ov => mcall_line hf hl
theorem form_of {es : List Expr} {pos : Pos} {env : Env} (ns : noStars es = true) (h : es.length < 20) : methodCallForm (es.length + 0) (backTo pos (starEach es env)) (backToKw pos (keywordEach [] env)) = true := by
  unfold methodCallForm
  have e1 : ∀ {l : List Expr}, noStars l = true → (backTo pos (starEach l env)).all (fun x => !x.1) = true := by
    intro l hl
    have q := star_plain (env := env) (pos := pos) hl
    rw [List.all_eq_not_any_not]
    simp only [Bool.not_not]
    have : ((backTo pos (starEach l env)).any fun x => x.1) = false := q
    rw [this]
    rfl
  rw [Bool.and_eq_true, Bool.and_eq_true]
  refine ⟨⟨e1 ns, rfl⟩, ?_⟩
  have : (backToKw pos (keywordEach [] env)) = [] := rfl
  rw [this]
  exact decide_eq_true (by show es.length + 0 + 0 < 30; omega)
def tMethS (C : Addr) (m : Str) (sp : Sp) (E : L2.St → XK) (ta : TE) (t : TA) : TE := fun σ H Q => ta σ H fun x H1 => ∃ a dx fs, x = .ref a ∧ H1 a = some (.ins C dx fs) ∧ fs.lookup m = none ∧ t σ H1 fun vs H2 => sp (x :: vs) H2 Q (E σ)
section
variable {X : Cx} {CX : CXT} {k : Nat} {D f : Addr} {m x : Str} {fd : FuncData} {ps : List Str} {sp : Sp} {E : L2.St → XK} {o e : Expr} {es : List Expr} {apos pos p : Pos} {ta : TE} {t : TA}
theorem pe_methE (he : PE X o ta) (c : Cls X.K D) (hm : Meth X.K D m f) (F : FnOk X.prog X.w X.K X.mg X.base CX k f fd ps sp) (hr : Room k X.A) (hb : Binds X.K fd ps []) (hx : ∀ σ, PassesAt CX X σ (E σ)) (ha : PA X (e :: es) t)
    (hn : notCall o = true) (hl : (apos.endLine == pos.line) = true) (ns : noStars (e :: es) = true) (h20 : (e :: es).length < 20) :
    PE X (.Call (.Attribute o m apos) (e :: es) [] pos) (tMethS D m sp E ta t) := by
  refine ⟨fun pins s σ H Q I h => ?_⟩
  refine PySem.W.methodCall_KW (pl := plainOf o X.env) (thn (he.run pins s σ H _ I h) fun u s1 ⟨x, H1, I1, rx, a, dx, fs, ex, ea, l, q⟩ => ?_) (mct_tree hn hl (form_of ns h20))
  subst ex
  obtain rfl : u = Value.ref a := rx
  refine getmeth_ok I1 ea c hm l ?_
  unfold noStars at ns
  rw [Bool.and_eq_true] at ns
  refine PySem.W.callWith_K (first := [.ref a]) (h₀ := X.base) I.ok.mod.kin hm.kp (thn (ha.run pos pins s1 σ H1 _ I1 q) fun us s2 ⟨vs, H2, I2, r, q2⟩ => ⟨I2.kIn, ?_⟩) (star_cons ns.1) (star_plain ns.2)
  exact run_fnS (us := .ref a :: us) (vs := .ref a :: vs) F hr hb (hx σ) I2 (.cons rfl r) q2
theorem pe_methE0 (he : PE X o ta) (c : Cls X.K D) (hm : Meth X.K D m f) (F : FnOk X.prog X.w X.K X.mg X.base CX k f fd ps sp) (hr : Room k X.A) (hb : Binds X.K fd ps []) (hx : ∀ σ, PassesAt CX X σ (E σ))
    (hn : notCall o = true) (hl : (apos.endLine == pos.line) = true) :
    PE X (.Call (.Attribute o m apos) [] [] pos) (tMethS D m sp E ta tNil) := by
  refine ⟨fun pins s σ H Q I h => ?_⟩
  refine PySem.W.methodCall_KW (pl := plainOf o X.env) (thn (he.run pins s σ H _ I h) fun u s1 ⟨x, H1, I1, rx, a, dx, fs, ex, ea, l, q⟩ => ?_) (mct_tree hn hl (form_of (es := []) rfl (by decide)))
  subst ex
  obtain rfl : u = Value.ref a := rx
  refine getmeth_ok I1 ea c hm l ?_
  exact PySem.W.callWith_K0 (first := [.ref a]) I1.kIn hm.kp (run_fnS (us := [.ref a]) (vs := [.ref a]) F hr hb (hx σ) I1 (.cons rfl .nil) q)
theorem run_makeS {pins : List (Addr × Obj)} {σ : L2.St} {H : Hp} {s : Shared} {Q : VK} {us : List Value} {vs : List V} (Mm : Mk X.K D f) (F : FnOk X.prog X.w X.K X.mg X.base CX k f fd ps sp) (hr : Room (k + 1) X.A) (hb : Binds X.K fd ps []) (hx : PassesAt CX X σ (E σ)) (I : Inv X pins σ H s) (r : Vals vs us)
    (h : ∀ x dx, H x = none → H dx = none → dx ≠ x → sp (.ref x :: vs) (upd (upd H dx (.own x)) x (.ins D dx [])) (fun v H2 => v = .non ∧ Q (.ref x) H2) (E σ)) :
    wpAny (model X.prog X.w) X.A (call (.ref D) us) (EP X pins σ Q) X.xe s := by
  have hq := h (s.heap.objs.size + 1) s.heap.objs.size (I.hok.fresh (Nat.le_succ _)) (I.hok.fresh (Nat.le_refl _)) (Nat.ne_of_lt (Nat.lt_succ_self _))
  have I2 := Inv.made (C := D) I
  have r2 : Vals (V.ref (s.heap.objs.size + 1) :: vs) (Value.ref (s.heap.objs.size + 1) :: us) := .cons rfl r
  have hl : (Value.ref (s.heap.objs.size + 1) :: us).length = ps.length := by
    have e := r2.length
    rw [F.len _ _ _ _ hq] at e
    exact e.symm
  have b := hb _ (Value.ref (s.heap.objs.size + 1) :: us) I2.kIn (by rw [List.append_nil]; exact hl)
  rw [List.append_nil] at b
  refine wpAny_call (make_map (f := f) I.kIn Mm.makes Mm.init (beq_iff_eq.mp Mm.fn) (codeAny_mono (F.run _ X.stack _ _ ⟨Value.ref (s.heap.objs.size + 1) :: us, []⟩ (Value.ref (s.heap.objs.size + 1) :: us) _ _ (E σ) (hr.make D us [])
    (I2.env0.make D us []) b r2 hq) fun r s' hq' => ?_))
  cases r with
  | error e => exact hx pins _ _ e s' I2 hq'
  | ok fl =>
    cases fl with
    | ret u =>
      obtain ⟨v, H', I3, rv, ev, q3⟩ := I2.after hq'
      subst ev
      exact ⟨rv, ⟨V.ref (s.heap.objs.size + 1), H', I3, rfl, q3⟩⟩
    | next => exact False.elim hq'
    | brk => exact False.elim hq'
    | cont => exact False.elim hq'
def tMakeS (D : Addr) (sp : Sp) (E : L2.St → XK) (t : TA) : TE := fun σ H Q => t σ H fun vs H1 => ∀ x dx, H1 x = none → H1 dx = none → dx ≠ x →
  sp (.ref x :: vs) (upd (upd H1 dx (.own x)) x (.ins D dx [])) (fun v H2 => v = .non ∧ Q (.ref x) H2) (E σ)
theorem pe_makeS (Mm : Mk X.K D f) (F : FnOk X.prog X.w X.K X.mg X.base CX k f fd ps sp) (hr : Room (k + 1) X.A) (hg : Gl X x) (hm : X.mg x = some (.ref D)) (hb : Binds X.K fd ps []) (hx : ∀ σ, PassesAt CX X σ (E σ))
    (ha : PA X (e :: es) t) (hdb : (x == ("__debug__" : Str)) = false) (he : starEach (e :: es) X.env = (false, eval e X.env) :: starEach es X.env) (hpl : (backTo pos (starEach es X.env)).any (·.1) = false) :
    PE X (.Call (.Name x p) (e :: es) [] pos) (tMakeS D sp E t) := by
  refine ⟨fun pins s σ H Q I h => ?_⟩
  refine wpAny_Call_Name_kw (ld_glob I hg hm ?_ hdb)
  refine PySem.W.callWith_K (h₀ := X.base) I.ok.mod.kin Mm.kp (thn (ha.run pos pins s σ H _ I h) fun us s1 ⟨vs, H1, I1, r, q⟩ => ⟨I1.kIn, ?_⟩) he hpl
  exact run_makeS Mm F hr hb (hx σ) I1 r q
end
theorem snd_mct (mode f : Nat) (nm : Str) (o : IE) (es : IEs) (ho : SndE g C cf o) (hs : SndEs g C cf es) : SndE g C cf (.mct mode f nm o es) := by
  intro c e X Wd h xc gg
  unfold ck at h
  split at h
  · rename_i eo m l he
    obtain ⟨p, p', rfl, hline, hcall⟩ := vMct_eq he
    simp only [Bool.and_eq_true, decide_eq_true_eq, Bool.not_eq_true'] at h
    obtain ⟨⟨⟨⟨⟨rfl, h2⟩, h3⟩, h4⟩, h5⟩, h6⟩ := h
    obtain ⟨hini, k, a, fd, ps, n, hroom, hm, hb, F, hn⟩ := gg.mts f m h2
    obtain ⟨hc, _⟩ := gg.sl hini
    have po := (ho c eo X Wd h4 xc gg).1
    have pa := (hs c l X Wd h5 xc gg).1
    have ns := noStars_of h5
    have i : ∀ σr H Q, tI X.K C Wd (ev cf (.mct mode f m o es)) σr H Q → tMethS (C 6) m (spI X.K C cf f n) (WE Wd) (tI X.K C Wd (ev cf o)) (tA X.K C Wd (evs cf es)) σr H Q := fun σr H Q ⟨F, ρ, σ, M, R, S, q⟩ => by
      simp only [ev] at q
      refine ⟨F, ρ, σ, M, R, S, Pst.conseq (Pst.bind q) fun v1 H1 ⟨F1, ρ1, w1, M1, x1, R1, r1, _, q1⟩ => ?_⟩
      split at q1
      · rename_i nn _
        split at q1
        · rename_i ws0 hM
          obtain ⟨a', ha', rfl⟩ := id r1
          obtain ⟨hF, h0, dx, vs, hH, hvs⟩ := R1.ob nn a' _ ha' hM
          refine ⟨a', dx, _, rfl, hH, zip_none vs m h3, ?_⟩
          refine ⟨F1, ρ1, σ, M1, R1, S.mono x1, PstL.conseq (PstL.bind q1) fun v2 H2 ⟨F2, ρ2, w2, M2, x2, R2, r2, _, q2⟩ => ?_⟩
          exact call_sp hn R2 (.cons (VR.mono x2 r1) r2) q2
        · exact q1.elim
      · exact q1.elim
    have q : PE X (.Call (.Attribute eo m p) l [] p') (tI X.K C Wd (ev cf (.mct mode f m o es))) := by
      cases l with
      | nil =>
        have ees : es = .nil := by
          cases es with
          | nil => rfl
          | cons _ _ => cases h5
        subst ees
        refine PE.imp (pe_methE0 (E := WE Wd) po hc hm F (hroom.mono (by omega)) hb (fun σ => passAt gg.tk σ) hcall hline) fun σr H Q q => ?_
        obtain ⟨F, ρ, σ, M, R, S, q3⟩ := i σr H Q q
        refine ⟨F, ρ, σ, M, R, S, Pst.conseq q3 fun x H1 ⟨a', dx, fs, e1, e2, e3, F1, ρ1, σ1, M1, R1, S1, q4⟩ => ⟨a', dx, fs, e1, e2, e3, ?_⟩⟩
        simp only [evs] at q4
        exact q4 F1 H1 ρ1 [] (.refl F1 H1 ρ1) R1 .nil
      | cons e l => exact PE.imp (pe_methE (E := WE Wd) po hc hm F (hroom.mono (by omega)) hb (fun σ => passAt gg.tk σ) pa hcall hline ns h6) i
    exact ⟨q, fun _ => plain_test q trivial⟩
  · cases h
/-- a new object of the class: nothing is said of its dict -/
theorem Rl.newI {K : PySem.W.Frag} {F H : Hp} {ρ : List Addr} {M : MH} {x dx : Addr} (R : Rl K C F H ρ M) (hx : H x = none) (hd : H dx = none) (hne : dx ≠ x) :
    Rl K C F (upd (upd H dx (.own x)) x (.ins (C 6) dx [])) (ρ ++ [x]) (M ++ [.ins []]) ∧ Ext F H ρ F (upd (upd H dx (.own x)) x (.ins (C 6) dx [])) (ρ ++ [x]) ∧ VR K F (ρ ++ [x]) (.ref x) (.m M.length) := by
  have R1 := R.newH (o := .own x) hd
  have e1 := Ext.newH (F := F) (ρ := ρ) (o := .own x) hd
  have hx1 : (upd H dx (.own x)) x = none := by
    rw [upd_ne (Ne.symm hne)]
    exact hx
  refine ⟨R1.newO (o := .ins (C 6) dx []) hx1 ⟨R1.freshF hx1, by simp, dx, [], upd_same, .nil⟩, e1.trans (Ext.newM hx1), x, by rw [← R.len, List.getElem?_append_right (Nat.le_refl _), Nat.sub_self]; rfl, rfl⟩
theorem snd_mkI (f : Nat) (es : IEs) (hs : SndEs g C cf es) : SndE g C cf (.mkI f es) := by
  intro c e X Wd h xc gg
  unfold ck at h
  split at h
  · rename_i x l he
    obtain ⟨p, p', rfl⟩ := vCall_eq he
    simp only [Bool.and_eq_true, decide_eq_true_eq, Bool.not_eq_true'] at h
    obtain ⟨⟨⟨⟨h1, h2⟩, h3⟩, h4⟩, h5⟩ := h
    obtain ⟨k, a, fd, ps, n, hroom, hm, hmk, hb, F, hn⟩ := gg.ini f x h1
    have pa := (hs c l X Wd h4 xc gg).1
    have ns := noStars_of h4
    have q : PE X (.Call (.Name x p) l [] p') (tI X.K C Wd (ev cf (.mkI f es))) := by
      cases l with
      | nil => cases h5
      | cons e l =>
        unfold noStars at ns
        rw [Bool.and_eq_true] at ns
        refine PE.imp (pe_makeS (E := WE Wd) hmk F hroom (xc.gl h2) hm hb (fun σ => passAt gg.tk σ) pa (okN_d h3) (star_cons ns.1) (star_plain ns.2)) fun σr H Q ⟨F, ρ, σ, M, R, S, q⟩ => ?_
        simp only [ev] at q
        refine parts (Q' := fun vs H1 => ∀ x dx, H1 x = none → H1 dx = none → dx ≠ x → spI X.K C cf f n (.ref x :: vs) (upd (upd H1 dx (.own x)) x (.ins (C 6) dx [])) (fun v H2 => v = .non ∧ Q (.ref x) H2) (WE Wd σr)) R S q fun {F H2 ρ M1 vs ws} R _ rs q2 x dx hx hd hne => ?_
        obtain ⟨R3, x3, r3⟩ := Rl.newI R hx hd hne
        have rs3 : VRs X.K F (ρ ++ [x]) (.ref x :: vs) (.m M1.length :: ws) := .cons r3 (VRs.mono x3 rs)
        cases ho : cf f (.m M1.length :: ws) (M1 ++ [.ins []]) with
        | none =>
          rw [ho] at q2
          exact q2.elim
        | some oo =>
          rw [ho] at q2
          refine ⟨by rw [rs3.length]; exact hn _ _ _ ho, F, ρ ++ [x], M1 ++ [.ins []], _, R3, rs3, ?_⟩
          rw [ho]
          cases oo with
          | val w M2 =>
            cases w with
            | d y =>
              cases y with
              | none =>
                intro F' H' ρ' v e R' r
                have r' : DR F' v .none := r
                cases r'
                exact ⟨rfl, q2.step (x3.trans e) R' (VR.mono e r3)⟩
              | _ => exact q2.elim
            | m _ => exact q2.elim
            | s _ => exact q2.elim
          | exc cc M2 => exact fun F' H' ρ' e R' => q2 F' H' ρ' (x3.trans e) R'
    exact ⟨q, fun _ => plain_test q trivial⟩
  · cases h
theorem cx_none {P : Program} {w : World} {outer : List Env} {H : Hp} {s s' : Shared} {e : Value} (z : L2.CX P w outer H s (fun _ _ _ => False) e s') : False := by
  obtain ⟨a, B, H', cls, d, _, _, _, _, _, _, _, hE⟩ := z
  exact hE
/-- len(o) by the class's own __len__ that raises nothing -/
def rLenO (D : Addr) (sp : Sp) : List V → Hp → VK → Prop := fun xs H Q => ∃ a dx fs, xs = [.ref a] ∧ H a = some (.ins D dx fs) ∧ sp [.ref a] H (fun v H' => ∃ i : Int, v = .int i ∧ 0 ≤ i ∧ i < 1000000 ∧ Q v H') (fun _ _ _ => False)
theorem call_lenO {X : Cx} {k : Nat} {D f : Addr} {fd : FuncData} {ps : List Str} {sp : Sp} (F : FnOk X.prog X.w X.K X.mg X.base (L2.CX X.prog X.w) k f fd ps sp) (hr : Room (k + 1) X.A) (hm : Meth X.K D ("__len__" : Str) f) (hb : Binds X.K fd ps []) : CallR X (.builtin "len") (rLenO D sp) := by
  intro pins s σ H xs us Q I r h
  obtain ⟨a, dx, fs, rfl, ha, q⟩ := h
  obtain ⟨u, rfl, ru⟩ := vals1 r
  obtain rfl : u = Value.ref a := ru
  obtain ⟨mA, J, _⟩ := ins_get I.hok ha
  obtain ⟨od, J, _⟩ := J.look
  have hs : PySem.W.Looks (model X.prog X.w) s.heap (specialOf (.ref a) "__len__") (some (.ref f)) := J.type.andThen (PySem.W.looks_findIn I.kIn hm.at_)
  have e0 : Env0 X.prog X.w X.K X.mg X.base X.A.in1 X.stack s H := by
    have e := I.env0
    exact ⟨e.frames, e.mod, e.bs, e.bsz, e.funs, e.frf, e.hok, e.bare⟩
  have hl := F.len _ _ _ _ q
  have b := hb s [.ref a] I.kIn (by simpa using hl)
  rw [List.append_nil] at b
  have r2 : Vals [V.ref a] [Value.ref a] := .cons rfl .nil
  have run : wpAny (model X.prog X.w) X.A.in1 (call (.ref f) [.ref a]) (EP X pins σ fun v H' => ∃ i : Int, v = .int i ∧ 0 ≤ i ∧ i < 1000000 ∧ Q v H') X.xe s := by
    refine wpAny_call (codeAny_mono (F.run X.A.in1 X.stack s H ⟨[.ref a], []⟩ [.ref a] [.ref a] _ _ hr.in1 e0 b r2 q) fun r s' hq => ?_)
    cases r with
    | error e => exact (cx_none hq).elim
    | ok fl =>
      cases fl with
      | ret w => exact I.after hq
      | next => exact False.elim hq
      | brk => exact False.elim hq
      | cont => exact False.elim hq
  refine Calls.call_function_entry kind_len plain_len entry_len (args_len1 _) ?_
  unfold Builtin.«len»
  refine wpAny_bind (m := oneArg "len" _) (wpAny_pure ?_)
  refine wpAny_bind (m := callSpecial? (.ref a) (PySem.Str.ofString "__len__")) ?_
  simp only [callSpecial?]
  refine wpAny_bind (hs.here ?_)
  refine wpAny_holding (wpAny_bind ((PySem.W.bind_fn I.kIn _ (beq_iff_eq.mp hm.fn)).here (wpAny_bind (wpAny_mono run (fun v s' ⟨x, H', I', rv, i, ex, h0, h1, q'⟩ => wpAny_pure ?_) fun _ _ z => z))))
  subst ex
  obtain ⟨t, rfl⟩ := rv
  refine wpAny_bind (wpAny_holding (wpAny_pure ?_))
  refine wpAny_bind (wpAny_letGo ?_)
  show wpAny _ _ (if i < 0 then _ else _) _ _ _
  rw [if_neg (by omega)]
  show wpAny _ _ (if i ≥ 2 ^ 63 then _ else _) _ _ _
  rw [if_neg (by omega)]
  exact wpAny_bind (wpAny_mkInt (wpAny_pure ⟨_, rfl, .int i, H', I'.tok _, ⟨_, rfl⟩, q'⟩))
theorem snd_oln (f : Nat) (a : IE) (ha : SndE g C cf a) : SndE g C cf (.oln f a) := by
  intro c e X Wd h xc gg
  unfold ck at h
  split at h
  · rename_i x ea he
    obtain ⟨p, p', rfl⟩ := vCall_eq he
    simp only [Bool.and_eq_true, decide_eq_true_eq] at h
    obtain ⟨⟨⟨⟨rfl, h2⟩, h3⟩, h4⟩, h5⟩ := h
    obtain ⟨hini, k, a', fd, ps, n, hroom, hm, hb, F, hn⟩ := gg.mts f _ h2
    have pa := (ha c ea X Wd h4 xc gg).1
    have hmg : X.mg ("len" : Str) = none := gg.nog _ (by decide +kernel)
    have q : PE X (.Call (.Name ("len" : Str) p) [ea] [] p') (tI X.K C Wd (ev cf (.oln f a))) := by
      refine PE.imp (pe_callB (call_lenO F hroom hm hb) (xc.gl h3) hmg (show bootBuiltins "len" = some (.builtin "len") by decide +kernel) (pa_cons pa pa_nil (star_cons h5)) (by decide) (by decide) (star_cons h5) rfl) fun σr H Q ⟨F, ρ, σ, M, R, S, q⟩ => ?_
      simp only [ev] at q
      refine ⟨F, ρ, σ, M, R, S, Pst.conseq (Pst.bind q) fun v1 H1 ⟨F1, ρ1, w1, M1, x1, R1, r1, _, q1⟩ => ?_⟩
      split at q1
      · rename_i nn _
        split at q1
        · rename_i ws0 hM
          obtain ⟨b, hb', rfl⟩ := id r1
          obtain ⟨hF, h0, dx, vs, hH, hvs⟩ := R1.ob nn b _ hb' hM
          refine ⟨b, dx, _, rfl, hH, call_sp (mode := 1) (Wd := fun _ _ _ _ => False) (σr := σr) hn R1 (.cons r1 .nil) ?_⟩
          split at q1
          · rename_i i M2 ho
            split at q1
            · rename_i hi
              rw [ho]
              intro F' H' ρ' v e R' r
              have ev := VR.int r
              subst ev
              exact ⟨i, rfl, hi.1, hi.2, q1.step e R' r⟩
            · exact q1.elim
          · exact q1.elim
        · exact q1.elim
      · exact q1.elim
    exact ⟨q, fun _ => plain_test q trivial⟩
  · cases h
theorem snd_pop (o : IE) (ho : SndE g C cf o) : SndE g C cf (.pop o) := by
  intro c e X Wd h xc gg
  unfold ck at h
  split at h
  · rename_i eo m he
    obtain ⟨p, p', rfl, hline, hcall⟩ := vMct_eq he
    simp only [Bool.and_eq_true, decide_eq_true_eq] at h
    obtain ⟨rfl, h2⟩ := h
    have q : PE X (.Call (.Attribute eo ("pop" : Str) p) [] [] p') (tI X.K C Wd (ev cf (.pop o))) := by
      refine PE.imp (pe_bm0 PySem.F.plainAttrs_list PySem.F.slot_list_pop PySem.F.type_list_pop mt_pop (ho c eo X Wd h2 xc gg).1 (base_plain hcall) hline) fun σr H Q ⟨F, ρ, σ, M, R, S, q⟩ => ?_
      simp only [ev] at q
      refine ⟨F, ρ, σ, M, R, S, Pst.conseq (Pst.bind q) fun v1 H1 ⟨F1, ρ1, w1, M1, x1, R1, r1, _, q1⟩ => ?_⟩
      split at q1
      · rename_i n _
        split at q1
        · rename_i ws hM
          split at q1
          · rename_i w hw
            obtain ⟨a, ha, rfl⟩ := r1
            obtain ⟨hF, vs, hH, hvs⟩ := R1.ob n a _ ha hM
            obtain ⟨v, hv, rv⟩ := hvs.get hw
            obtain ⟨R4, x4⟩ := R1.setL ha hF (VRs.dropLast hvs)
            refine ⟨.inl ⟨rfl, _, .of hH⟩, a, vs, v, rfl, rfl, hH, by rw [hvs.length]; exact hv, ?_⟩
            exact q1.step x4 R4 (VR.mono x4 rv)
          · exact q1.elim
        · exact q1.elim
      · exact q1.elim
    exact ⟨q, fun _ => plain_test q trivial⟩
  · cases h
end
end Wl

set_option Elab.async false
set_option linter.all false
set_option maxRecDepth 100000
set_option maxHeartbeats 1000000
namespace Wl
open PySem PySem.Spec PyProof.Rows L2
section
variable {g : Gc} {C : Nat → Addr} {cf : CF}
/-! ### targets -/
theorem pg_one {X : Cx} {c : Cc} {i : Nat} {e : Expr} (xc : XC X c) (nd : X.N.Nodup) (h : ckN c i e = true) : PG X e (gName i) := by
  unfold ckN at h
  split at h
  · rename_i x hx
    obtain ⟨p, rfl⟩ := vName_eq hx
    simp only [Bool.and_eq_true, decide_eq_true_eq] at h
    exact pg_name nd (by rw [xc.N]; exact h.1.1) (xc.loc h.1.2) (xc.sto h.2)
  · cases h
def gAll : List Nat → TGs
  | [] => gNil
  | i :: is => gCons (gName i) (gAll is)
theorem each_cons {env : Env} {e : Expr} {es : List Expr} (h : notStar e = true) : assignEach (e :: es) env = (false, assign e env) :: assignEach es env := by
  cases e <;> first | rfl | cases h
theorem ckN_ns {c : Cc} {i : Nat} {e : Expr} (h : ckN c i e = true) : notStar e = true := by
  unfold ckN at h
  split at h
  · rename_i x hx
    obtain ⟨p, rfl⟩ := vName_eq hx
    rfl
  · cases h
theorem pgs_all {X : Cx} {c : Cc} (xc : XC X c) (nd : X.N.Nodup) : ∀ {is : List Nat} {es : List Expr}, ckNs c is es = true → PGs X es (gAll is) ∧ (assignEach es X.env).length = is.length ∧ (assignEach es X.env).findIdx? (·.1) = none
  | [], [], _ => ⟨pgs_nil, rfl, rfl⟩
  | [], _ :: _, h => by cases h
  | _ :: _, [], h => by cases h
  | i :: is, e :: es, h => by
    unfold ckNs at h
    rw [Bool.and_eq_true] at h
    obtain ⟨q1, q2, q3⟩ := pgs_all xc nd h.2
    have ns := ckN_ns h.1
    refine ⟨pgs_cons (pg_one xc nd h.1) q1 (by rw [each_cons ns]; rfl), by rw [each_cons ns, List.length_cons, List.length_cons, q2], ?_⟩
    rw [each_cons ns, List.findIdx?_cons, q3]
    rfl
theorem gAll_ok {K : PySem.W.Frag} {F : Hp} {ρ : List Addr} {H : Hp} {Q : L2.St → Hp → Prop} {own : List Nat} : ∀ {is : List Nat} {xs : List PyData} {vs : List V} {σ σ' : Sl} {σr : L2.St}, putAll is xs σ = some σ' → SR K F ρ σ σr → DRs F vs xs → (∀ i ∈ is, i ∈ own ∨ own = []) →
    (∀ σr', SR K F ρ σ' σr' → (own ≠ [] → L2.wipe σr' own = L2.wipe σr own) → Q σr' H) → gAll is vs σr H Q
  | [], [], vs, σ, σ', σr, h, S, d, ho, k => by
    cases h
    cases d
    exact ⟨rfl, k σr S fun _ => rfl⟩
  | [], _ :: _, _, _, _, _, h, _, _, _, _ => by cases h
  | _ :: _, [], _, _, _, _, h, _, _, _, _ => by cases h
  | i :: is, x :: xs, vs, σ, σ', σr, h, S, d, ho, k => by
    cases d with
    | @cons v vs' _ _ r rs =>
      refine ⟨v, vs', rfl, ?_⟩
      refine gAll_ok (own := own) (show putAll is xs (σ.set i (some (.d x))) = some σ' from h) (S.set i (show VR K F ρ v (.d x) from r)) rs (fun j hj => ho j (List.mem_cons_of_mem _ hj)) fun σr' S' hw => k σr' S' fun hne => ?_
      rw [hw hne]
      exact wipe_set ((ho i List.mem_cons_self).resolve_right hne)
def tGof (K : PySem.W.Frag) : List Nat → TG
  | [i] => gName i
  | gs => gTup K gs.length (gAll gs)
theorem putAll_len : ∀ {is : List Nat} {xs : List PyData} {σ σ' : Sl}, putAll is xs σ = some σ' → is.length = xs.length
  | [], [], _, _, _ => rfl
  | [], _ :: _, _, _, h => by cases h
  | _ :: _, [], _, _, h => by cases h
  | i :: is, x :: xs, σ, σ', h => by rw [List.length_cons, List.length_cons, putAll_len (show putAll is xs (σ.set i (some (.d x))) = some σ' from h)]
theorem tgt_pg {X : Cx} {c : Cc} {e : Expr} (hc : X.calm = true) (xc : XC X c) (nd : X.N.Nodup) : ∀ {gs : List Nat}, ckT c gs e = true → PG X e (tGof X.K gs)
  | [], h => by cases h
  | [i], h => pg_one xc nd h
  | i :: j :: r, h => by
    have h2 : (match vTup e with
      | some es => ckNs c (i :: j :: r) es
      | none => false) = true := h
    cases he : vTup e with
    | none =>
      rw [he] at h2
      cases h2
    | some es =>
      rw [he] at h2
      obtain ⟨kk, p, rfl⟩ := vTup_eq he
      obtain ⟨q1, q2, q3⟩ := pgs_all xc nd h2
      exact pg_tup hc q1 q2 q3
/-- a target, by what put does -/
theorem tgt_ok {K : PySem.W.Frag} {gs : List Nat} {F H : Hp} {ρ : List Addr} {M : MH} {σ σ' : Sl} {σr : L2.St} {v : V} {x : PyData} {Q : L2.St → Hp → Prop} {own : List Nat} (R : Rl K C F H ρ M) (S : SR K F ρ σ σr) (r : DR F v x) (hp : put gs x σ = some σ') (ho : ∀ i ∈ gs, i ∈ own ∨ own = [])
    (k : ∀ σr', SR K F ρ σ' σr' → (own ≠ [] → L2.wipe σr' own = L2.wipe σr own) → Q σr' H) : tGof K gs v σr H Q := by
  match gs, hp, ho with
  | [i], hp, ho =>
    cases hp
    exact k _ (S.set i (show VR K F ρ v (.d x) from r)) fun hne => wipe_set ((ho i (by simp)).resolve_right hne)
  | [], hp, ho =>
    cases x with
    | tuple xs =>
      have hp' : putAll [] xs σ = some σ' := hp
      cases r with
      | tup e1 e2 => exact ⟨_, _, rfl, .of (R.sub _ _ e1), by rw [e2.length, ← putAll_len hp'], gAll_ok hp' S e2 ho k⟩
    | _ => cases hp
  | i :: j :: t, hp, ho =>
    cases x with
    | tuple xs =>
      have hp' : putAll (i :: j :: t) xs σ = some σ' := hp
      cases r with
      | tup e1 e2 => exact ⟨_, _, rfl, .of (R.sub _ _ e1), by rw [e2.length, ← putAll_len hp'], gAll_ok hp' S e2 ho k⟩
    | _ => cases hp
/-! ### comprehensions -/
theorem upd_some {H : Hp} {b D : Addr} {o : HO} (h : H b ≠ none) : upd H D o b ≠ none := by
  by_cases e : b = D
  · rw [e, upd_same]
    exact fun z => nomatch z
  · rw [upd_ne e]
    exact h
theorem Rl.other {K : PySem.W.Frag} {F H : Hp} {ρ : List Addr} {M : MH} {D : Addr} {o : HO} (R : Rl K C F H ρ M) (nD : D ∉ ρ) (fD : F D = none) : Rl K C F (upd H D o) ρ M := by
  refine ⟨fun b x e => ?_, R.len, R.nd, fun a ha => upd_some (R.has a ha), fun n a z e1 e2 => ?_⟩
  · rw [upd_ne (fun q : b = D => by rw [q, fD] at e; cases e)]
    exact R.sub _ _ e
  · have ha : a ≠ D := fun q => nD (q ▸ List.mem_of_getElem? e1)
    have q := (R.ob n a z e1 e2).keep (H' := upd H D o) (.refl F) [] id (fun x hx => by rw [upd_ne ha]; exact hx)
    rw [List.append_nil] at q
    exact q
theorem Ext.other {F H F' H' : Hp} {ρ ρ' : List Addr} {D : Addr} {o : HO} (e : Ext F H ρ F' H' ρ') (h0 : H D = none) : Ext F H ρ F' (upd H' D o) ρ' :=
  ⟨e.f, fun b x hb hn => by
    rw [upd_ne (fun q : b = D => by rw [q, h0] at hb; cases hb)]
    exact e.h b x hb hn, e.n, e.p, fun b hb => upd_some (e.t b hb)⟩
theorem adoptF {K : PySem.W.Frag} {F H F' H' : Hp} {ρ ρ' : List Addr} {M : MH} {D : Addr} {vs : List V} {zs : List PyData} (R : Rl K C F' H' ρ' M) (e : Ext F H ρ F' H' ρ') (h0 : H D = none) (hD : H' D = some (.lst vs)) (nD : D ∉ ρ') (fD : F' D = none) (d : DRs F' vs zs) :
    ∃ F2, Rl K C F2 H' ρ' M ∧ Ext F H ρ F2 H' ρ' ∧ DR F2 (.ref D) (.list zs) := by
  have sF : Same F' (upd F' D (.lst vs)) := same_new fD
  refine ⟨upd F' D (.lst vs), ⟨fun b x q => ?_, R.len, R.nd, R.has, fun n a z e1 e2 => ?_⟩, ⟨e.f.trans sF, e.h, fun b q hb hn => ?_, e.p, e.t⟩, .lst upd_same (DRs.mono sF _ _ d)⟩
  · by_cases hb : b = D
    · subst hb
      rw [upd_same] at q
      rw [hD]
      exact q
    · rw [upd_ne hb] at q
      exact R.sub _ _ q
  · have ha : a ≠ D := fun q => nD (q ▸ List.mem_of_getElem? e1)
    have q := (R.ob n a z e1 e2).keep (H' := H') sF [] (fun h => by rw [upd_ne ha]; exact h) (fun x hx => hx)
    rw [List.append_nil] at q
    exact q
  · rw [upd_ne (fun z : b = D => hb (by rw [z]; exact h0))]
    exact e.n b q hb hn
theorem adoptM {K : PySem.W.Frag} {F H F' H' : Hp} {ρ ρ' : List Addr} {M : MH} {D : Addr} {z : MO} (R : Rl K C F' H' ρ' M) (e : Ext F H ρ F' H' ρ') (h0 : H D = none) (hD : H' D ≠ none) (nD : D ∉ ρ') (d : OR K C F' H' (ρ' ++ [D]) D z) :
    Rl K C F' H' (ρ' ++ [D]) (M ++ [z]) ∧ Ext F H ρ F' H' (ρ' ++ [D]) ∧ VR K F' (ρ' ++ [D]) (.ref D) (.m M.length) := by
  refine ⟨⟨R.sub, by rw [List.length_append, List.length_append, R.len]; rfl, ?_, fun a ha => ?_, fun n a y e1 e2 => ?_⟩, ⟨e.f, e.h, e.n, ?_, e.t⟩, D, by rw [← R.len, List.getElem?_append_right (Nat.le_refl _), Nat.sub_self]; rfl, rfl⟩
  · exact List.nodup_append.mpr ⟨R.nd, by simp, fun x hx y hy q => by
      have : y = D := by simpa using hy
      rw [q, this] at hx
      exact nD hx⟩
  · rcases List.mem_append.mp ha with q | q
    · exact R.has a q
    · have : a = D := by simpa using q
      rw [this]
      exact hD
  · by_cases hn : n < ρ'.length
    · rw [List.getElem?_append_left hn] at e1
      rw [List.getElem?_append_left (by rw [← R.len]; exact hn)] at e2
      exact (R.ob n a y e1 e2).keep (.refl F') [D] id fun _ q => q
    · have hn2 : n = ρ'.length := by
        have := (List.getElem?_eq_some_iff.mp e1).1
        rw [List.length_append] at this
        simp at this
        omega
      subst hn2
      rw [List.getElem?_append_right (Nat.le_refl _), Nat.sub_self] at e1
      rw [R.len, List.getElem?_append_right (Nat.le_refl _), Nat.sub_self] at e2
      cases e1
      cases e2
      exact d
  · obtain ⟨l, e1, e2⟩ := e.p
    refine ⟨l ++ [D], by rw [e1, List.append_assoc], fun a ha => ?_⟩
    rcases List.mem_append.mp ha with q | q
    · exact e2 a q
    · have : a = D := by simpa using q
      rw [this]
      exact h0
def tCnd (K : PySem.W.Frag) (C : Nat → Addr) (cf : CF) (Wd : WX) : IEs → TT
  | .nil => tYes
  | .cons c .nil => tB (tI K C Wd (ev cf c))
  | .cons _ (.cons _ _) => fun _ _ _ => False
theorem pts_cnd {X : Cx} {c : Cc} {ifs : IEs} {l : List Expr} {Wd : WX} (hs : SndEs g C cf ifs) (h : cks g ifs c l = true) (ht : tstOks ifs = true) (xc : XC X c) (gg : G g C cf X Wd) : PTs X l (tCnd X.K C cf Wd ifs) := by
  match ifs, hs, h, ht with
  | .nil, hs, h, ht =>
    cases l with
    | nil => exact pts_nil
    | cons _ _ => cases h
  | .cons a .nil, hs, h, ht =>
    obtain ⟨e, l', rfl, q1, q2, q3⟩ := (hs c l X Wd h xc gg).2.2 a .nil rfl
    cases l' with
    | cons _ _ => cases q3
    | nil =>
      unfold tstOks at ht
      rw [Bool.and_eq_true] at ht
      exact pts_one (q2 ht.1)
  | .cons a (.cons b r), hs, h, ht => exact ⟨fun _ _ _ _ _ _ q => q.elim⟩
theorem cnd_ok {K : PySem.W.Frag} {ifs : IEs} {σr : L2.St} {F H : Hp} {ρ : List Addr} {σ : Sl} {M : MH} {b : Bool} {M1 : MH} {Q : Bool → Hp → Prop} (R : Rl K C F H ρ M) (S : SR K F ρ σ σr) (h : evC cf ifs σ M = some (b, M1))
    (k : ∀ {F' H' : Hp} {ρ' : List Addr}, Ext F H ρ F' H' ρ' → Rl K C F' H' ρ' M1 → Q b H') : tCnd K C cf (fun _ _ _ _ => False) ifs σr H Q := by
  match ifs, h with
  | .nil, h =>
    simp only [evC] at h
    cases h
    exact k (.refl F H ρ) R
  | .cons a .nil, h =>
    simp only [evC] at h
    split at h
    · rename_i b' M1' ho
      cases h
      refine ⟨F, ρ, σ, M, R, S, ?_⟩
      rw [ho]
      intro F' H' ρ' v e R' r
      exact ⟨_, VR.bl r, k e R'⟩
    · cases h
  | .cons a (.cons b r), h => simp only [evC] at h; cases h
def stepC (cf : CF) (own gs : List Nat) (ifs : IEs) (elt : IE) (σ : Sl) (x : PyData) (N : MH) : Option CR := match put gs x (wipeW σ own) with
      | none => none
      | some σ1 => match evC cf ifs σ1 N with
        | some (true, N1) => match ev cf elt σ1 N1 with
          | some (.val (.d y) N2) => some (.keep y N2)
          | _ => none
        | some (false, N1) => some (.skip N1)
        | none => none
theorem ev_lc {mu : Bool} {own gs : List Nat} {it : II} {ifs : IEs} {elt : IE} {σ : Sl} {M : MH} : ev cf (.lc mu own it gs ifs elt) σ M = obI (evi cf it σ M) fun xs M1 => match lcF (stepC cf own gs ifs elt σ) xs M1 with
      | some (ys, M2) => if ys.length ≤ cap then some (newL mu ys M2) else none
      | none => none := by
  rw [ev]
  rfl
/-- how far a comprehension is -/
def LcAt (K : PySem.W.Frag) (C : Nat → Addr) (F H : Hp) (ρ : List Addr) (D : Addr) (step : PyData → MH → Option CR) (xs zs : List PyData) (Mf : MH) (i : Nat) (H' : Hp) : Prop :=
  ∃ (F' : Hp) (ρ' : List Addr) (M' : MH) (acc ys : List PyData) (vs : List V), Ext F H ρ F' H' ρ' ∧ Rl K C F' H' ρ' M' ∧ H' D = some (.lst vs) ∧ D ∉ ρ' ∧ F' D = none ∧ DRs F' vs acc ∧ lcF step (xs.drop i) M' = some (ys, Mf) ∧ acc ++ ys = zs
/-- the turns of a comprehension -/
theorem lc_walk {K : PySem.W.Frag} {own gs : List Nat} {ifs : IEs} {elt : IE} {J : It} {F H : Hp} {ρ : List Addr} {σ : Sl} {σr : L2.St} {M Mf : MH} {xs zs : List PyData} {D : Addr} {Qf : Hp → Prop} (R : Rl K C F H ρ M) (S : SR K F ρ σ σr) (wk : Wk K C J F xs) (hD : H D = none) (hown : own ≠ []) (hgs : ∀ i ∈ gs, i ∈ own)
    (hz : lcF (stepC cf own gs ifs elt σ) xs M = some (zs, Mf)) (hcap : zs.length ≤ cap)
    (fin : ∀ {F' H' : Hp} {ρ' : List Addr} {vs : List V}, Ext F H ρ F' H' ρ' → Rl K C F' H' ρ' Mf → H' D = some (.lst vs) → D ∉ ρ' → F' D = none → DRs F' vs zs → Qf H') :
    ∃ Wv : Nat → Nat → Hp → Prop, (∃ m, Wv 0 m (upd H D (.lst []))) ∧ ∀ i m H, Wv i m H →
      (J.stop i H ∧ Qf H) ∨ (J.go i H ∧ ∃ Nx : Hp → Prop, (∀ H', Nx H' → ∃ m', m' < m ∧ Wv (i + 1) m' H') ∧ ∀ x H', J.yld i H x H' → tGof K gs x (L2.wipe σr own) H' fun σ2 H2 => L2.wipe σ2 own = L2.wipe σr own ∧ tCnd K C cf (fun _ _ _ _ => False) ifs σ2 H2 fun b H3 =>
        if b = true then tI K C (fun _ _ _ _ => False) (ev cf elt) σ2 H3 fun y H4 => ∃ acc, H4 D = some (.lst acc) ∧ acc.length < sizeLine ∧ Nx (upd H4 D (.lst (acc ++ [y]))) else Nx H3) := by
  refine ⟨fun i m H' => m = xs.length - i ∧ i ≤ xs.length ∧ LcAt K C F H ρ D (stepC cf own gs ifs elt σ) xs zs Mf i H', ⟨xs.length, by simp, Nat.zero_le _, F, ρ, M, [], zs, [], Ext.newH hD, R.newH hD, upd_same, R.fresh hD, R.freshF hD, .nil, hz, rfl⟩, ?_⟩
  rintro i m H1 ⟨rfl, hi, F1, ρ1, M1, acc, ys, vs, x1, R1, hD1, nD1, fD1, d1, hl, hzs⟩
  by_cases hlt : i < xs.length
  · refine .inr ⟨wk.go i H1 (x1.f.trans R1.sub) hlt, fun H' => LcAt K C F H ρ D (stepC cf own gs ifs elt σ) xs zs Mf (i + 1) H', fun H' hn => ⟨xs.length - (i + 1), by omega, rfl, hlt, hn⟩, fun v H' hy => ?_⟩
    obtain ⟨F2, x2, R2, r2⟩ := wk.yld i H1 v H' F1 ρ1 M1 xs[i] x1.f R1 (List.getElem?_eq_getElem hlt) hy
    have hD2 : H' D = some (.lst vs) := x2.h D _ hD1 nD1
    have fD2 : F2 D = none := x2.n D fD1 (by rw [hD1]; exact fun z => nomatch z) nD1
    rw [List.drop_eq_getElem_cons hlt, lcF] at hl
    have S2 : SR K F2 ρ1 (wipeW σ own) (L2.wipe σr own) := ((S.mono x1).mono x2).wipe own
    -- what the step does
    cases hs : stepC cf own gs ifs elt σ xs[i] M1 with
    | none =>
      rw [hs] at hl
      cases hl
    | some o =>
      rw [hs] at hl
      have hs2 := hs
      unfold stepC at hs2
      split at hs2
      · cases hs2
      · rename_i σ1 hp
        refine tgt_ok (own := own) R2 S2 r2 hp (fun i hi => .inl (hgs i hi)) fun σr' S3 hw => ⟨by rw [hw hown, wipe_wipe], ?_⟩
        split at hs2
        · rename_i N1 hc
          refine cnd_ok R2 S3 hc fun {F3 H3 ρ3} x3 R3 => ?_
          refine iteT ?_
          have nD3 : D ∉ ρ3 := fun hm => by
            obtain ⟨l, e1, e2⟩ := x3.p
            rw [e1] at hm
            rcases List.mem_append.mp hm with q | q
            · exact nD1 q
            · rw [e2 D q] at hD2
              cases hD2
          have hD3 : H3 D = some (.lst vs) := x3.h D _ hD2 nD1
          have fD3 : F3 D = none := x3.n D fD2 (by rw [hD2]; exact fun z => nomatch z) nD1
          refine ⟨F3, ρ3, σ1, N1, R3, S3.mono x3, ?_⟩
          split at hs2
          · rename_i y N2 he
            cases hs2
            rw [he]
            intro F4 H4 ρ4 u x4 R4 r4
            have nD4 : D ∉ ρ4 := fun hm => by
              obtain ⟨l, e1, e2⟩ := x4.p
              rw [e1] at hm
              rcases List.mem_append.mp hm with q | q
              · exact nD3 q
              · rw [e2 D q] at hD3
                cases hD3
            have hD4 : H4 D = some (.lst vs) := x4.h D _ hD3 nD3
            have fD4 : F4 D = none := x4.n D fD3 (by rw [hD3]; exact fun z => nomatch z) nD3
            simp only at hl
            split at hl
            · rename_i ys' M2 hl2
              cases hl
              have d4 : DRs F4 vs acc := DRs.mono ((x2.f.trans x3.f).trans x4.f) _ _ d1
              refine ⟨vs, hD4, ?_, F4, ρ4, N2, acc ++ [y], ys', vs ++ [u], (((x1.trans x2).trans x3).trans x4).other hD, R4.other nD4 fD4, upd_same, nD4, fD4, d4.append (.cons r4 .nil), hl2, by rw [List.append_assoc]; exact hzs⟩
              refine Nat.lt_of_lt_of_le ?_ (capS hcap)
              rw [d4.length, ← hzs, List.length_append, List.length_cons]
              omega
            · cases hl
          · cases hs2
        · rename_i N1 hc
          cases hs2
          refine cnd_ok R2 S3 hc fun {F3 H3 ρ3} x3 R3 => ?_
          refine iteF ?_
          have nD3 : D ∉ ρ3 := fun hm => by
            obtain ⟨l, e1, e2⟩ := x3.p
            rw [e1] at hm
            rcases List.mem_append.mp hm with q | q
            · exact nD1 q
            · rw [e2 D q] at hD2
              cases hD2
          have hD3 : H3 D = some (.lst vs) := x3.h D _ hD2 nD1
          have fD3 : F3 D = none := x3.n D fD2 (by rw [hD2]; exact fun z => nomatch z) nD1
          simp only at hl
          exact ⟨F3, ρ3, N1, acc, ys, vs, (x1.trans x2).trans x3, R3, hD3, nD3, fD3, DRs.mono (x2.f.trans x3.f) _ _ d1, hl, hzs⟩
        · cases hs2
  · have e : i = xs.length := by omega
    subst e
    rw [List.drop_length] at hl
    cases hl
    rw [List.append_nil] at hzs
    subst hzs
    exact .inl ⟨wk.stop H1 (x1.f.trans R1.sub), fin x1 R1 hD1 nD1 fD1 d1⟩
theorem own'_snd (c : Cc) (own : List Nat) : (own' c own).map (·.2) = own := by
  unfold own'
  rw [List.map_map]
  exact List.map_id own
/-- the reading of a comprehension -/
theorem lc_read {K : PySem.W.Frag} {mu : Bool} {own gs : List Nat} {it : II} {ifs : IEs} {elt : IE} {Wd : WX} {F H : Hp} {ρ : List Addr} {σ : Sl} {σr : L2.St} {M : MH} {Q : VK} (R : Rl K C F H ρ M) (S : SR K F ρ σ σr) (hown : own ≠ []) (hgs : ∀ i ∈ gs, i ∈ own)
    (q : Pst K C F H ρ (EW C Wd σr) Q (ev cf (.lc mu own it gs ifs elt) σ M)) :
    tLc (tIt K C Wd (evi cf it)) (tGof K gs) (tCnd K C cf (fun _ _ _ _ => False) ifs) (tI K C (fun _ _ _ _ => False) (ev cf elt)) own σr H Q := by
  rw [ev_lc] at q
  refine ⟨F, ρ, σ, M, R, S, ?_⟩
  cases ho : evi cf it σ M with
  | none =>
    rw [ho] at q
    exact q.elim
  | some o =>
    rw [ho] at q
    cases o with
    | exc c M1 => exact q
    | val xs M1 =>
      simp only [obI] at q
      intro F1 H1 ρ1 J x1 R1 wk D hD
      split at q
      · rename_i zs Mf hz
        split at q
        · rename_i hcap
          refine lc_walk (Qf := fun H' => Q (.ref D) H') R1 (S.mono x1) wk hD hown hgs hz hcap fun {F2 H2 ρ2 vs} x2 R2 hD2 nD2 fD2 d2 => ?_
          cases mu with
          | false =>
            obtain ⟨F3, R3, x3, r3⟩ := adoptF R2 x2 hD hD2 nD2 fD2 d2
            exact Pst.step (w := .d (.list zs)) q (x1.trans x3) R3 r3
          | true =>
            obtain ⟨R3, x3, r3⟩ := adoptM (z := .lst (zs.map .d)) R2 x2 hD (by rw [hD2]; exact fun z => nomatch z) nD2 ⟨fD2, vs, hD2, VRs.of_data d2⟩
            exact Pst.step (w := .m Mf.length) q (x1.trans x3) R3 r3
        · exact q.elim
      · exact q.elim
theorem snd_lc (mu : Bool) (own : List Nat) (it : II) (gs : List Nat) (ifs : IEs) (elt : IE) (hi : SndI g C cf it) (hf : SndEs g C cf ifs) (he : SndE g C cf elt) : SndE g C cf (.lc mu own it gs ifs elt) := by
  intro c e X Wd h xc gg
  unfold ck at h
  split at h
  · rename_i eelt etg eit eifs sc hv
    obtain ⟨p, rfl⟩ := vLc_eq hv
    simp only [Bool.and_eq_true] at h
    obtain ⟨⟨⟨⟨⟨⟨h1, h2⟩, h3⟩, h4⟩, h5⟩, h6⟩, h7⟩ := h
    have hgs : ∀ i ∈ gs, i ∈ own := fun i hm => by
      have := List.all_eq_true.mp h7 i hm
      simpa using this
    have hown : own ≠ [] := by
      intro z
      subst z
      unfold ckT at h3
      cases gs with
      | nil => cases h3
      | cons i is => exact absurd (hgs i (by simp)) (by simp)
    obtain ⟨pi, hfs⟩ := hi c eit etg X Wd h2 xc gg
    have xb := fun (s : Shared) (H : Hp) (C' : Addr) (cl : List (Str × Addr)) (fp : List Addr) => xc.blk s H sc C' cl fp
    have gb := fun (s : Shared) (H : Hp) (C' : Addr) (cl : List (Str × Addr)) (fp : List Addr) => gg.blk s H sc (compEnvC sc cl C' X.env) fp
    have q : PE X (.ListComp eelt [⟨etg, eit, eifs, 0⟩] sc p) (tI X.K C Wd (ev cf (.lc mu own it gs ifs elt))) := by
      refine PE.imp (pe_lc (own := own' c own) (g := tGof X.K gs) (te := tI X.K C (fun _ _ _ _ => False) (ev cf elt)) (tt := tCnd X.K C cf (fun _ _ _ _ => False) ifs) gg.calm gg.nd pi (blkOk_by (by rw [xc.N, xc.sc]; exact h1)) (fun s H C' cl fp => tgt_pg (X := X.blk s H sc (compEnvC sc cl C' X.env) fp) gg.calm (xb s H C' cl fp) gg.nd h3)
        (fun s H C' cl fp => pts_cnd hf h4 h5 (xb s H C' cl fp) (gb s H C' cl fp)) (fun s H C' cl fp => (he _ _ _ _ h6 (xb s H C' cl fp) (gb s H C' cl fp)).1) hfs) fun σr H Q ⟨F, ρ, σ, M, R, S, q⟩ => ?_
      rw [own'_snd]
      exact lc_read R S hown hgs q
    exact ⟨q, fun _ => plain_test q trivial⟩
  · cases h
/-! ### all expressions -/
mutual
theorem sndE : ∀ ie : IE, SndE g C cf ie
  | .var i => snd_var i
  | .cst x => snd_cst x
  | .glb x v => snd_glb x v
  | .bin op a b => snd_bin op a b (sndE a) (sndE b)
  | .neg a => snd_neg a (sndE a)
  | .cmp op a b => snd_cmp op a b (sndE a) (sndE b)
  | .chn o p a b d => snd_chn o p a b d (sndE a) (sndE b) (sndE d)
  | .bop k es => snd_bop k es (sndEs es)
  | .not a => snd_not a (sndE a)
  | .ife t a b => snd_ife t a b (sndE t) (sndE a) (sndE b)
  | .lst mu es => snd_lst mu es (sndEs es)
  | .tup es => snd_tup es (sndEs es)
  | .sub a i => snd_sub a i (sndE a) (sndE i)
  | .sli a lo hi => snd_sli a lo hi (sndE a) (sndEs lo) (sndEs hi)
  | .rev a => snd_rev a (sndE a)
  | .call mode f es => snd_call mode f es (sndEs es)
  | .blt b mu es => snd_blt b mu es (sndEs es)
  | .isi a t => snd_isi a t (sndE a)
  | .mth f o e => snd_mth f o e (sndE o) (sndE e)
  | .lc mu own it gs ifs elt => snd_lc mu own it gs ifs elt (sndI it) (sndEs ifs) (sndE elt)
  | .dct t => snd_dct t
  | .dsb a i => snd_dsb a i (sndE a) (sndE i)
  | .din n i a => snd_din n i a (sndE i) (sndE a)
  | .dgt a i d => snd_dgt a i d (sndE a) (sndE i) (sndE d)
  | .dln a => snd_dln a (sndE a)
  | .dso a => snd_dso a (sndE a)
  | .lr1 tu mu b => snd_lr1 tu mu b (sndE b)
  | .lr2 tu mu a b => snd_lr2 tu mu a b (sndE a) (sndE b)
  | .fst a b => snd_fst a b (sndE a) (sndE b)
  | .sse a => snd_sse a (sndE a)
  | .att a k => snd_att a k (sndE a)
  | .mkI f es => snd_mkI f es (sndEs es)
  | .mct mode f nm o es => snd_mct mode f nm o es (sndE o) (sndEs es)
  | .pop o => snd_pop o (sndE o)
  | .oln f a => snd_oln f a (sndE a)
theorem sndEs : ∀ es : IEs, SndEs g C cf es
  | .nil => snds_nil
  | .cons a es => snds_cons a es (sndE a) (sndEs es)
theorem sndI : ∀ it : II, SndI g C cf it
  | .seq k a => sndi_seq k a (sndE a)
  | .rng es => sndi_rng es (sndEs es)
  | .zip es => sndi_zip es (sndEs es)
  | .enm es => sndi_enm es (sndEs es)
end
end
end Wl

set_option Elab.async false
set_option linter.all false
set_option maxRecDepth 100000
set_option maxHeartbeats 1000000
namespace Wl
open PySem PySem.Spec PyProof.Rows L2
/-! ### a caught error that is kept in another name -/
section
variable {X : Cx} {pins : List (Addr × Obj)} {σ : L2.St} {H : Hp} {s : Shared}
/-- the error's object is told of from now on -/
theorem Inv.adopt {a CC : Addr} {oe : Obj} {fs : Array Value} (I : L2.Inv X pins σ H s) (ha : s.heap.get? a = some oe) (hz : Zc (.ref CC) none oe) (hd : oe.data = .fields fs) (na : H a = none) (nL : a ≠ X.env.locals) (nC : ∀ x cc, X.env.cells.lookup x = some cc → cc ≠ a)
    (nP : ∀ p ∈ X.pn ++ pins, p.1 ≠ a) (n0 : X.s_0.heap.get? a = none) : L2.Inv X pins σ (upd H a (.ext (excP a CC))) s := by
  have hok : HOk X.prog X.w (upd H a (.ext (excP a CC))) s.heap := fun b u e => by
    by_cases hb : b = a
    · subst hb
      rw [upd_same] at e
      cases e
      exact ⟨⟨oe, fs, ha, hz.1, hz.2, hd⟩, ⟨oe, ha⟩, fun h1 h2 ⟨o, vs, g1, g2⟩ k => ⟨o, vs, k o g1, g2⟩⟩
    · rw [upd_ne hb] at e
      exact (I.hok b u e).stay (fun _ _ _ q => q) (fun c q => by rw [upd_ne (ne_of_none q na)]; exact q) fun c xs q => by rw [upd_ne (ne_of_none q na)]; exact q
  have base : Un X.fs X.ex X.H_0 (upd H a (.ext (excP a CC))) X.s_0.heap s.heap := by
    refine ⟨I.base.keep, I.base.slot, fun b o e n hx => ?_, I.base.there, fun b xs e => ?_, fun b o u e => ?_, fun b ps e => ?_⟩
    · rw [upd_ne (fun z : b = a => by rw [z, n0] at e; cases e)]
      exact I.base.free b o e n hx
    · have q := I.base.tups b xs e
      rw [upd_ne (ne_of_none q na)]
      exact q
    · have q := I.base.frzs b o u e
      rw [upd_ne (ne_of_none q na)]
      exact q
    · obtain ⟨more, q⟩ := I.base.tbls b ps e
      exact ⟨more, by rw [upd_ne (ne_of_none q na)]; exact q⟩
  refine ⟨I.ok, I.os, I.bare, base, I.loc, I.cell, ?_, fun x cc e => ?_, fun p hp => ?_, hok, I.len⟩
  · rw [upd_ne nL.symm]
    exact I.free
  · rw [upd_ne (nC x cc e)]
    exact I.freeC x cc e
  · obtain ⟨g1, g2, g3⟩ := I.pin p hp
    exact ⟨g1, by rw [upd_ne (nP p hp)]; exact g2, g3⟩
theorem Inv.inSuite (I : L2.Inv X pins σ H s) (a : Addr) : L2.Inv (X.suite a (X.pn ++ pins)) [] σ H s :=
  ⟨I.ok.suite _ _, I.os, I.bare, I.base, I.loc, I.cell, I.free, I.freeC, fun p hp => I.pin p (by rw [List.append_nil] at hp; exact hp), I.hok, I.len⟩
theorem Inv.offSuite {a : Addr} (I : L2.Inv (X.suite a (X.pn ++ pins)) [] σ H s) (ok : X.Ok) : L2.Inv X pins σ H s :=
  ⟨ok, I.os, I.bare, I.base, I.loc, I.cell, I.free, I.freeC, fun p hp => I.pin p (by rw [List.append_nil]; exact hp), I.hok, I.len⟩
/-- what the clause wants of an error -/
def wKept (c : Value) (K : PySem.W.Frag) (i j : Nat) (D : Ends) : WX := fun cls d τ G => d = none ∧ PySem.W.exmOne K cls c = some true ∧ ∃ CC, cls = .ref CC ∧
  ∀ a, G a = none → D.nx ((τ.set j (some (.ref a))).set i none) (upd G a (.ext (excP a CC)))
variable {x n y : Str} {c : Value} {i j : Nat} {body : List Stmt} {np pos pos' py pn' p3 : Pos} {tb : WX → TS}
theorem ps_try_kept (hst : X.stack = X.env :: X.outer) (hx0 : X.ex = []) (hfr : X.env.frame = some X.env.locals) (nd : X.N.Nodup) (hi : X.N[i]? = some n) (hj : X.N[j]? = some y) (hij : i ≠ j) (hln : X.env.kindOf n = some .local) (hly : X.env.kindOf y = some .local) (okn : okN n = true) (hc : Names X x c)
    (hb : ∀ (W : WX) (ps : List (Addr × Obj)) (xe : Value → Shared → Prop), Takes (X.tr ps xe) W → PassesOwn (model X.prog X.w) X.A X.env xe → PSs (X.tr ps xe) body (tb W)) :
    PS X (.Try body [.ExceptHandler (some (.Name x np)) (some n) [.Assign [.Name y py] (.Name n pn') p3] pos'] [] [] pos) (fun D τ G => tb (wKept c X.K i j D) D τ G) := by
  refine ⟨fun pins s σ H D I h => ?_⟩
  have ok := I.ok
  have hframes : X.A.frames = some (X.env :: X.outer) := ok.frames.trans (by rw [hst])
  refine wpAny_Try_except (wpAny_mono ((hb (wKept c X.K i j D) (X.pn ++ pins) _ (fun u t xx => ?_) PassesOwn.looking).run [] s σ H D (I.toTry _) h) (fun f t hsp => ?_) fun _ _ z => z)
  rotate_left
  · cases f with
    | next =>
      obtain ⟨τ, G, J, q⟩ := hsp
      exact wpAny_execs_nil ⟨τ, G, J.ofTry ok, q⟩
    | brk =>
      obtain ⟨τ, G, J, q⟩ := hsp
      exact ⟨τ, G, J.ofTry ok, q⟩
    | cont =>
      obtain ⟨τ, G, J, q⟩ := hsp
      exact ⟨τ, G, J.ofTry ok, q⟩
    | ret u =>
      obtain ⟨v, τ, G, J, r, q⟩ := hsp
      exact ⟨v, τ, G, J.ofTry ok, r, q⟩
  · obtain ⟨a, B, t0, qins, τ, G, cls, d, rfl, J0, nb, up, sky, na, hos, hag, hdn, hex, CC, rfl, hnx⟩ := xx
    subst hdn
    have J : L2.Inv X pins τ G t0 := J0.ofTry ok
    refine Sky.land (M := model X.prog X.w) Zc.steady hframes hfr (by rw [← hst]; exact sky) fun h3 fl3 up3 => ?_
    obtain ⟨o3, v3, g3, z3, d3⟩ := fl3.there
    have J3 : L2.Inv X pins τ G { t with heap := h3 } := J.landed nb fl3.1 (up.trans up3) hos hag
    have far : a ∉ frs (X.env :: X.outer) := fun hm => by
      obtain ⟨_, o, e, hno⟩ := fl3.2.2.1.mem hm
      rw [g3] at e
      cases e
      exact hno _ d3
    have nL : a ≠ X.env.locals := fun z => far (List.mem_filterMap.mpr ⟨X.env, List.mem_cons_self, by rw [hfr, z]⟩)
    have nF : a ∉ X.fs := fun hm => by
      obtain ⟨e, he, q⟩ := List.mem_filterMap.mp hm
      exact far (List.mem_filterMap.mpr ⟨e, List.mem_cons_of_mem _ he, q⟩)
    have inT0 : t0.heap.get? a = none := by
      cases e : t0.heap.get? a with
      | none => rfl
      | some o =>
        have q := nb a o e (by rw [hst]; exact far)
        rw [fl3.2.1] at q
        cases q
    have S3 := Inv.inSuite J3 a
    refine wpAny_handleBy_cons (codeAny_handlers_test ?_) (by intro q; cases q)
    have LT : PySem.W.Looks (model X.prog X.w) h3 (typeOf (.ref a)) (.ref CC) := fun A Q E r k q => wpAny_typeOf_ref (k _ _ g3) (by rw [z3.1]; exact q)
    have LM := PySem.W.exm_one (M := model X.prog X.w) J3.kIn LT hex
    have named : ∀ {Q E : Value → Shared → Prop}, Q c { t with heap := h3 } → wpAny (model X.prog X.w) (X.A.mark (some (.ref a))) (eval (.Name x np) X.env) Q E { t with heap := h3 } := fun {Q E} q => by
      obtain ⟨hg, hdbg, hm | ⟨hm, hv, hnn⟩⟩ := hc
      · exact ld_glob (X := X.suite a (X.pn ++ pins)) S3 hg hm q hdbg
      · exact ld_blt (X := X.suite a (X.pn ++ pins)) S3 hg hm hv q hnn hdbg
    refine named (LM.here ?_)
    refine codeAny_handlers_suite_as ?_
    refine HandSPX.lands_againZ fl3 fun h4 fl4 up4 => ?_
    obtain ⟨o4, v4, g4, z4, d4⟩ := fl4.there
    have J4 : L2.Inv X pins τ G { t with heap := h4 } := J.landed nb fl4.1 ((up.trans up3).trans up4) hos hag
    have n0 : X.s_0.heap.get? a = none := by
      cases e : X.s_0.heap.get? a with
      | none => rfl
      | some o =>
        obtain ⟨o', q⟩ := J.base.there a o e (by rw [hx0]; simp)
        rw [inT0] at q
        cases q
    have nC : ∀ z cc, X.env.cells.lookup z = some cc → cc ≠ a := fun z cc e w => by
      obtain ⟨v, q⟩ := J4.cell z cc e
      obtain ⟨oc, q1, q2⟩ := q
      rw [w, g4] at q1
      cases q1
      rw [d4] at q2
      cases q2
    have nP : ∀ p ∈ X.pn ++ pins, p.1 ≠ a := fun p hp w => by
      have q := (J.pin p hp).1
      rw [w, inT0] at q
      cases q
    have J5 := Inv.adopt J4 g4 z4 d4 na nL nC nP n0
    have S5 := Inv.inSuite J5 a
    refine store_ok (X := X.suite a (X.pn ++ pins)) (v := .ref a) S5 nd hi (.inl hln) rfl (fun s5 S6 => ?_) (.inr hln)
    -- the suite: y = n
    have hset : PSs (X.suite a (X.pn ++ pins)) [.Assign [.Name y py] (.Name n pn') p3] (tAsg (tVar i) (gName j)) :=
      pss_one (ps_set (X := X.suite a (X.pn ++ pins)) nd hj (.inl hly) (pe_var hi (.inl hln) (okN_d okn) (okN_c okn)) rfl (.inr hly))
    have hlt : i < τ.length := by
      rw [J4.len]
      exact (List.getElem?_eq_some_iff.mp hi).1
    refine wpAny_mono (hset.run [] s5 _ _ { nx := fun σ' H' => σ' = (τ.set i (some (.ref a))).set j (some (.ref a)) ∧ H' = upd G a (.ext (excP a CC)), rt := fun _ _ => False } S6 ⟨.ref a, List.getElem?_set_self hlt, rfl, rfl⟩) (fun f s6 hsp => ?_) (fun _ _ z => False.elim z)
    cases f with
    | next =>
      obtain ⟨σ6, H6, S7, rfl, rfl⟩ := hsp
      refine gone_ok (Inv.offSuite S7 ok) nd hi hln fun s7 J7 => ?_
      refine ⟨_, _, J7, ?_⟩
      have e : ((τ.set i (some (.ref a))).set j (some (.ref a))).set i none = (τ.set j (some (V.ref a))).set i none := by
        rw [List.set_comm (l := τ) _ _ hij, List.set_set]
      rw [e]
      exact hnx a na
    | brk =>
      obtain ⟨_, _, _, z⟩ := hsp
      exact z.elim
    | cont =>
      obtain ⟨_, _, _, z⟩ := hsp
      exact z.elim
    | ret u =>
      obtain ⟨_, _, _, _, _, z⟩ := hsp
      exact z.elim
end
end Wl

set_option Elab.async false
set_option linter.all false
set_option maxRecDepth 100000
set_option maxHeartbeats 1000000
namespace Wl
open PySem PySem.Spec PyProof.Rows L2
/-! ### statements -/
def notComp : Expr → Bool
  | .ListComp _ _ _ _ => false
  | .SetComp _ _ _ _ => false
  | .DictComp _ _ _ _ _ => false
  | _ => true
def notTup : Expr → Bool
  | .Tuple _ _ _ => false
  | _ => true
def foldTup : Expr → Bool
  | .Tuple vs _ _ => vs.all (foldedForSure 8) && noStars vs
  | _ => false
def vAsg : Stmt → Option (Expr × Expr)
  | .Assign [t] v _ => some (t, v)
  | _ => none
def vAug : Stmt → Option (Expr × Operator × Expr)
  | .AugAssign t o v _ => some (t, o, v)
  | _ => none
def vExp : Stmt → Option Expr
  | .Expr v _ => some v
  | _ => none
def vRet : Stmt → Option Expr
  | .Return (some v) _ => some v
  | _ => none
def vIf : Stmt → Option (Expr × List Stmt × List Stmt)
  | .If t a b _ => some (t, a, b)
  | _ => none
def vFor : Stmt → Option (Expr × Expr × List Stmt)
  | .For t i b [] _ => some (t, i, b)
  | _ => none
def vWhl : Stmt → Option (Expr × List Stmt)
  | .While t b [] _ => some (t, b)
  | _ => none
def vRse : Stmt → Option Str
  | .Raise (some (.Call (.Name x _) [.Constant (.str _) _ _] [] _)) none _ => some x
  | _ => none
def vTry : Stmt → Option (List Stmt × Str × Str × Str × Str)
  | .Try b [.ExceptHandler (some (.Name x _)) (some n) [.Assign [.Name y _] (.Name m _) _] _] [] [] _ => some (b, x, n, y, m)
  | _ => none
def isPass : Stmt → Bool
  | .Pass _ => true
  | _ => false
section
variable {st : Stmt}
theorem vAsg_eq {t v : Expr} (h : vAsg st = some (t, v)) : ∃ p, st = .Assign [t] v p := by
  unfold vAsg at h
  split at h <;> cases h
  exact ⟨_, rfl⟩
theorem vAug_eq {t v : Expr} {o : Operator} (h : vAug st = some (t, o, v)) : ∃ p, st = .AugAssign t o v p := by
  unfold vAug at h
  split at h <;> cases h
  exact ⟨_, rfl⟩
theorem vExp_eq {v : Expr} (h : vExp st = some v) : ∃ p, st = .Expr v p := by
  unfold vExp at h
  split at h <;> cases h
  exact ⟨_, rfl⟩
theorem vRet_eq {v : Expr} (h : vRet st = some v) : ∃ p, st = .Return (some v) p := by
  unfold vRet at h
  split at h <;> cases h
  exact ⟨_, rfl⟩
theorem vIf_eq {t : Expr} {a b : List Stmt} (h : vIf st = some (t, a, b)) : ∃ p, st = .If t a b p := by
  unfold vIf at h
  split at h <;> cases h
  exact ⟨_, rfl⟩
theorem vFor_eq {t i : Expr} {b : List Stmt} (h : vFor st = some (t, i, b)) : ∃ p, st = .For t i b [] p := by
  unfold vFor at h
  split at h <;> cases h
  exact ⟨_, rfl⟩
theorem vWhl_eq {t : Expr} {b : List Stmt} (h : vWhl st = some (t, b)) : ∃ p, st = .While t b [] p := by
  unfold vWhl at h
  split at h <;> cases h
  exact ⟨_, rfl⟩
theorem vRse_eq {x : Str} (h : vRse st = some x) : ∃ p1 m j p2 p3 p4, st = .Raise (some (.Call (.Name x p1) [.Constant (.str m) j p2] [] p3)) none p4 := by
  unfold vRse at h
  split at h <;> cases h
  exact ⟨_, _, _, _, _, _, rfl⟩
theorem vTry_eq {b : List Stmt} {x n y m : Str} (h : vTry st = some (b, x, n, y, m)) : ∃ p1 p2 p3 p4 p5 p6, st = .Try b [.ExceptHandler (some (.Name x p1)) (some n) [.Assign [.Name y p2] (.Name m p3) p4] p5] [] [] p6 := by
  unfold vTry at h
  split at h <;> cases h
  exact ⟨_, _, _, _, _, _, rfl⟩
theorem isPass_eq (h : isPass st = true) : ∃ p, st = .Pass p := by
  unfold isPass at h
  split at h
  · exact ⟨_, rfl⟩
  · cases h
end
def lclB (c : Cc) (x : Str) : Bool := match c.sc.names.lookup x with
  | some .local => true
  | _ => false
def celB (c : Cc) (x : Str) : Bool := match c.sc.names.lookup x with
  | some .cell => true
  | _ => false
/-- the comprehension's scope has no own y -/
def noOwn (sc : Scope) (y : Str) : Bool := !(sc.names.any fun p => p.1 == y && (p.2 == .local || p.2 == .cell))
def sameLine : Expr → Expr → Bool
  | .Name _ py, .ListComp _ _ _ p => py.line == p.line
  | _, _ => false
def isApp : Expr → Option (Expr × Expr)
  | .Call (.Attribute o m p) [a] [] q => if decide (m = ("append" : Str)) && (p.endLine == q.line) && notCall o then some (o, a) else none
  | _ => none
theorem isApp_eq {e o a : Expr} (h : isApp e = some (o, a)) : ∃ p q, e = .Call (.Attribute o ("append" : Str) p) [a] [] q ∧ (p.endLine == q.line) = true ∧ notCall o = true := by
  unfold isApp at h
  split at h
  · split at h
    · rename_i hc
      cases h
      simp only [Bool.and_eq_true, decide_eq_true_eq] at hc
      obtain ⟨⟨rfl, h2⟩, h3⟩ := hc
      exact ⟨_, _, rfl, h2, h3⟩
    · cases h
  · cases h
def augM : BO → Operator → Bool
  | .add, .Add => true
  | .sub, .Sub => true
  | _, _ => false
/-- the stores of a, b = x, y are swapped ones -/
def swOk (c : Cc) (ts vs : List Expr) : Bool := decide (c.sc.kind = .function) && !vs.all (foldedForSure 8) && !vs.all (constantsAlone 8) && (match ts with
  | [.Name x px, .Name y py] => lcN c.sc x && lcN c.sc y && (py.line == px.line) && !(x == y) && decide (vs.length = 2)
  | [.Name x px, .Name y py, .Name z pz] => lcN c.sc x && lcN c.sc y && lcN c.sc z && (py.line == px.line) && (pz.line == px.line) && !(x == y) && !(x == z) && !(y == z) && decide (vs.length = 3)
  | _ => false)
mutual
def ckS (g : Gc) : IS → Cc → Stmt → Bool
  | .asg i e, c, st => match vAsg st with
    | some (t, v) => ckN c i t && ck g e c v && (notComp v || (match vName t with
      | some y => celB c y
      | none => false))
    | none => false
  | .asgC i _ own it tg ifs elt, c, st => match vAsg st with
    | some (t, v) => ckN c i t && ck g (.lc false own it tg ifs elt) c v && sameLine t v && (match vName t, vLc v with
      | some y, some (_, _, _, _, sc) => lclB c y && noOwn sc y && decide (c.sc.kind = .function)
      | _, _ => false)
    | none => false
  | .asgT is e, c, st => match vAsg st with
    | some (t, v) => ckT c is t && decide (2 ≤ is.length) && ck g e c v && notComp v && (notTup v || foldTup v)
    | none => false
  | .asgP is es, c, st => match vAsg st with
    | some (t, v) => (match vTup t, vTup v with
      | some ts, some vs => decide (is.length ≤ 100) && cks g es c vs && !vs.any stF && ckNs c is ts && decide (is.Nodup) && notComp v && (swOk c ts vs || (notLoc c.sc ts && decide (2 ≤ is.length)))
      | _, _ => false)
    | none => false
  | .setD o i e, c, st => match vAsg st with
    | some (t, v) => (match vSub t with
      | some (eo, ei) => ck g o c eo && ck g i c ei && ck g e c v && notComp v && notTup v
      | none => false)
    | none => false
  | .setI o i e, c, st => match vAsg st with
    | some (t, v) => (match vSub t with
      | some (eo, ei) => ck g o c eo && ck g i c ei && ck g e c v && notComp v && notTup v
      | none => false)
    | none => false
  | .aug op i e, c, st => match vAug st with
    | some (t, oo, v) => ckN c i t && augM op oo && ck g e c v
    | none => false
  | .exp e, c, st => match vExp st with
    | some v => ck g e c v && notComp v
    | none => false
  | .app o e, c, st => match vExp st with
    | some v => (match isApp v with
      | some (eo, ea) => ck g o c eo && ck g e c ea && notStar ea
      | none => false)
    | none => false
  | .ret e, c, st => match vRet st with
    | some v => ck g e c v
    | none => false
  | .ite t a b, c, st => match vIf st with
    | some (et, sa, sb) => ck g t c et && tstOk t && ckSs g a c sa && ckSs g b c sb
    | none => false
  | .for it tg b, c, st => match vFor st with
    | some (et, ei, sb) => cki g it c ei et && ckT c tg et && ckSs g b c sb
    | none => false
  | .whl t b, c, st => match vWhl st with
    | some (et, sb) => ck g t c et && tstOk t && ckSs g b c sb
    | none => false
  | .rse k, c, st => match vRse st with
    | some x => decide (g.cs[k]? = some x) && okN x && glbB c x
    | none => false
  | .try b i j, c, st => match vTry st with
    | some (sb, x, n, y, m) => g.ex && decide (g.cs[0]? = some x) && okN x && glbB c x && decide (c.N[i]? = some n) && decide (c.N[j]? = some y) && decide (i ≠ j) && lclB c n && lclB c y && okN n && decide (m = n) && ckSs g b c sb
    | none => false
  | .pass, _, st => isPass st
  | .frz _, _, _ => false
  | .setA o k e, c, st => match vAsg st with
    | some (t, v) => (match vAtt t with
      | some (eo, f) => g.ini.isSome && decide (atNs[k]? = some f) && ck g o c eo && ck g e c v && notComp v
      | none => false)
    | none => false
def ckSs (g : Gc) : ISs → Cc → List Stmt → Bool
  | .nil, _, l => match l with
    | [] => true
    | _ => false
  | .cons s ss, c, l => match s with
    | .frz _ => ckSs g ss c l
    | s => match l with
      | [] => false
      | st :: r => ckS g s c st && ckSs g ss c r
end
end Wl

set_option Elab.async false
set_option linter.all false
set_option maxRecDepth 100000
set_option maxHeartbeats 1000000
namespace Wl
open PySem PySem.Spec PyProof.Rows L2
def PstS (K : PySem.W.Frag) (C : Nat → Addr) (F H : Hp) (ρ : List Addr) (Wd : WX) (D : Ends) : Option SO → Prop
  | none => False
  | some (.nx σ M') => ∀ F' H' ρ' σr', Ext F H ρ F' H' ρ' → Rl K C F' H' ρ' M' → SR K F' ρ' σ σr' → D.nx σr' H'
  | some (.rt w M') => ∀ F' H' ρ' v, Ext F H ρ F' H' ρ' → Rl K C F' H' ρ' M' → VR K F' ρ' v w → D.rt v H'
  | some (.ex c σ M') => ∀ F' H' ρ' σr', Ext F H ρ F' H' ρ' → Rl K C F' H' ρ' M' → SR K F' ρ' σ σr' → Wd (.ref (C c)) none σr' H'
def tS (K : PySem.W.Frag) (C : Nat → Addr) (Wd : WX) (o : Sl → MH → Option SO) : TS := fun D σr H => ∃ (F : Hp) (ρ : List Addr) (σ : Sl) (M : MH), Rl K C F H ρ M ∧ SR K F ρ σ σr ∧ PstS K C F H ρ Wd D (o σ M)
section
variable {K : PySem.W.Frag} {C : Nat → Addr} {F F' H H' : Hp} {ρ ρ' : List Addr} {Wd : WX} {D : Ends} {σ : Sl} {σr : L2.St} {M : MH}
theorem PstS.mono {o : Option SO} (e : Ext F H ρ F' H' ρ') (h : PstS K C F H ρ Wd D o) : PstS K C F' H' ρ' Wd D o := by
  cases o with
  | none => exact h
  | some o =>
    cases o with
    | nx σ M' => exact fun F2 H2 ρ2 v x R r => h F2 H2 ρ2 v (e.trans x) R r
    | rt w M' => exact fun F2 H2 ρ2 v x R r => h F2 H2 ρ2 v (e.trans x) R r
    | ex c σ M' => exact fun F2 H2 ρ2 v x R r => h F2 H2 ρ2 v (e.trans x) R r
theorem PstS.bind {o : Option Out} {f : W → MH → Option SO} (S : SR K F ρ σ σr) (h : PstS K C F H ρ Wd D (obS o σ f)) :
    Pst K C F H ρ (EW C Wd σr) (fun v H' => ∃ F' ρ' w M', Ext F H ρ F' H' ρ' ∧ Rl K C F' H' ρ' M' ∧ SR K F' ρ' σ σr ∧ VR K F' ρ' v w ∧ PstS K C F' H' ρ' Wd D (f w M')) o := by
  cases o with
  | none => exact h
  | some o =>
    cases o with
    | val w M' => exact fun F2 H2 ρ2 v x R r => ⟨F2, ρ2, w, M', x, R, S.mono x, r, PstS.mono x h⟩
    | exc c M' => exact fun F2 H2 ρ2 x R => h F2 H2 ρ2 σr x R (S.mono x)
theorem PstS.bindI {o : Option OutI} {f : List PyData → MH → Option SO} (S : SR K F ρ σ σr) (h : PstS K C F H ρ Wd D (obIS o σ f)) :
    PstI K C F H ρ (EW C Wd σr) (fun J H' => ∃ F' ρ' xs M', Ext F H ρ F' H' ρ' ∧ Rl K C F' H' ρ' M' ∧ SR K F' ρ' σ σr ∧ Wk K C J F' xs ∧ PstS K C F' H' ρ' Wd D (f xs M')) o := by
  cases o with
  | none => exact h
  | some o =>
    cases o with
    | val w M' => exact fun F2 H2 ρ2 v x R r => ⟨F2, ρ2, w, M', x, R, S.mono x, r, PstS.mono x h⟩
    | exc c M' => exact fun F2 H2 ρ2 x R => h F2 H2 ρ2 σr x R (S.mono x)
theorem PstS.nx (h : PstS K C F H ρ Wd D (some (.nx σ M))) (R : Rl K C F H ρ M) (S : SR K F ρ σ σr) : D.nx σr H := h F H ρ σr (.refl F H ρ) R S
theorem SR.redesc {i : Nat} {v : V} {w : W} (S : SR K F ρ σ σr) (h : σr[i]? = some (some v)) (r : VR K F ρ v w) : SR K F ρ (σ.set i (some w)) σr := by
  refine ⟨by rw [List.length_set]; exact S.len, fun j u e => ?_⟩
  by_cases hj : i = j
  · subst hj
    have hi : i < σ.length := by
      have := (List.getElem?_eq_some_iff.mp e).1
      rw [List.length_set] at this
      exact this
    rw [List.getElem?_set_self hi] at e
    cases e
    exact ⟨v, h, r⟩
  · rw [List.getElem?_set_ne hj] at e
    exact S.at' j u e
end
/-- a def's own frame -/
structure Df (X : Cx) : Prop where
  po : PassesOwn (model X.prog X.w) X.A X.env X.xe
  st : X.stack = X.env :: X.outer
  fr : X.env.frame = some X.env.locals
  ex : X.ex = []
section
variable (g : Gc) (C : Nat → Addr) (cf : CF)
def SndS (s : IS) : Prop := ∀ (c : Cc) (st : Stmt) (X : Cx) (Wd : WX), ckS g s c st = true → XC X c → G g C cf X Wd → Df X → PS X st (tS X.K C Wd (exS cf s))
def SndSs (s : ISs) : Prop := ∀ (c : Cc) (st : List Stmt) (X : Cx) (Wd : WX), ckSs g s c st = true → XC X c → G g C cf X Wd → Df X → PSs X st (tS X.K C Wd (exSs cf s))
end
section
variable {g : Gc} {C : Nat → Addr} {cf : CF}
theorem swap_plain {e : Expr} {t : Option Expr} {l : Nat} {env : Env} (h : notComp e = true) : swapsWith e t l env = pure false := by
  cases e <;> first | rfl | cases h
theorem sole_plain {e t : Expr} {l : Nat} {env : Env} (h : notComp e = true) : swapsWithSole [t] e l env = pure false := by
  cases e <;> first | rfl | cases h
theorem swap_cell {elt : Expr} {gs : List Comprehension} {sc : Scope} {p py : Pos} {y : Str} {l : Nat} {env : Env} (h : env.scope.names.lookup y = some .cell) : swapsWith (.ListComp elt gs sc p) (some (.Name y py)) l env = pure false := by
  have k : env.kindOf y = some .cell := h
  unfold swapsWith
  simp only [k]
  have e : (some NameKind.cell == some NameKind.local) = false := rfl
  rw [e, Bool.and_false, Bool.false_and, Bool.false_and]
theorem ck_comp {ie : IE} {c : Cc} {e : Expr} (h : ck g ie c e = true) (hn : notComp e = false) : ∃ elt gs sc p, e = .ListComp elt gs sc p := by
  cases e with
  | ListComp elt gs sc p => exact ⟨_, _, _, _, rfl⟩
  | SetComp _ _ _ _ => cases ie <;> simp [ck, vName, vCst, vBin, vNeg, vNot, vCmp, vChn, vBop, vIfe, vLst, vTup, vSub, vSli, vRev, vCall, vMth, vLc, isDct, vGet, vLrg, vFst, vAtt, vMct] at h
  | DictComp _ _ _ _ _ => cases ie <;> simp [ck, vName, vCst, vBin, vNeg, vNot, vCmp, vChn, vBop, vIfe, vLst, vTup, vSub, vSli, vRev, vCall, vMth, vLc, isDct, vGet, vLrg, vFst, vAtt, vMct] at h
  | _ => cases hn
theorem snd_asg (i : Nat) (e : IE) : SndS g C cf (.asg i e) := by
  intro c st X Wd h xc gg df
  unfold ckS at h
  split at h
  · rename_i t v hv
    obtain ⟨p, rfl⟩ := vAsg_eq hv
    simp only [Bool.and_eq_true, Bool.or_eq_true] at h
    obtain ⟨⟨h1, h2⟩, h3⟩ := h
    unfold ckN at h1
    split at h1
    · rename_i x hx
      obtain ⟨p', rfl⟩ := vName_eq hx
      simp only [Bool.and_eq_true, decide_eq_true_eq] at h1
      have hs : swapsWith v (some (.Name x p')) p.line X.env = pure false := by
        rcases h3 with h3 | h3
        · exact swap_plain h3
        · cases hn : notComp v with
          | true => exact swap_plain hn
          | false =>
            obtain ⟨elt, gs, sc, q, rfl⟩ := ck_comp h2 hn
            refine swap_cell ?_
            have h4 : celB c x = true := h3
            unfold celB at h4
            rw [xc.sc]
            split at h4
            · assumption
            · cases h4
      refine PS.imp (ps_set gg.nd (by rw [xc.N]; exact h1.1.1) (xc.loc h1.1.2) (sndE e c v X Wd h2 xc gg).1 hs (xc.sto h1.2)) fun D σr H ⟨F, ρ, σ, M, R, S, q⟩ => ?_
      simp only [exS] at q
      exact ⟨F, ρ, σ, M, R, S, Pst.conseq (PstS.bind S q) fun v1 H1 ⟨F1, ρ1, w, M1, x1, R1, S1, r1, q1⟩ => q1.nx R1 (S1.set i r1)⟩
    · cases h1
  · cases h
theorem snd_asgC (i : Nat) (mu : Bool) (own : List Nat) (it : II) (tg : List Nat) (ifs : IEs) (elt : IE) : SndS g C cf (.asgC i mu own it tg ifs elt) := by
  intro c st X Wd h xc gg df
  unfold ckS at h
  split at h
  · rename_i t v hv
    obtain ⟨p, rfl⟩ := vAsg_eq hv
    simp only [Bool.and_eq_true] at h
    obtain ⟨⟨⟨h1, h2⟩, h3⟩, h4⟩ := h
    split at h4
    · rename_i x eelt etg eit eifs sc hx hl
      obtain ⟨p', rfl⟩ := vName_eq hx
      obtain ⟨p2, rfl⟩ := vLc_eq hl
      simp only [Bool.and_eq_true, decide_eq_true_eq] at h4
      obtain ⟨⟨h5, h6⟩, h7⟩ := h4
      have hloc : X.env.scope.names.lookup x = some .local := by
        unfold lclB at h5
        rw [xc.sc]
        split at h5
        · assumption
        · cases h5
      have hno : (sc.names.any fun (n, k) => n == x && (k == .local || k == .cell)) = false := by
        unfold noOwn at h6
        rw [Bool.not_eq_true'] at h6
        exact h6
      have hN : X.N[i]? = some x := by
        unfold ckN at h1
        rw [hx] at h1
        simp only [Bool.and_eq_true, decide_eq_true_eq] at h1
        rw [xc.N]
        exact h1.1.1
      unfold ck at h2
      rw [hl] at h2
      simp only [Bool.and_eq_true] at h2
      obtain ⟨⟨⟨⟨⟨⟨b1, b2⟩, b3⟩, b4⟩, b5⟩, b6⟩, b7⟩ := h2
      have hgs : ∀ i ∈ tg, i ∈ own := fun i hm => by
        have := List.all_eq_true.mp b7 i hm
        simpa using this
      have hown : own ≠ [] := by
        intro z
        subst z
        cases tg with
        | nil => cases b3
        | cons i is => exact absurd (hgs i (by simp)) (by simp)
      obtain ⟨pi, hfs⟩ := sndI it c eit etg X Wd b2 xc gg
      have xb := fun (s : Shared) (H : Hp) (C' : Addr) (cl : List (Str × Addr)) (fp : List Addr) => xc.blk s H sc C' cl fp
      have gb := fun (s : Shared) (H : Hp) (C' : Addr) (cl : List (Str × Addr)) (fp : List Addr) => gg.blk s H sc (compEnvC sc cl C' X.env) fp
      refine PS.imp (ps_setLc (own := own' c own) (g := tGof X.K tg) (te := tI X.K C (fun _ _ _ _ => False) (ev cf elt)) (tt := tCnd X.K C cf (fun _ _ _ _ => False) ifs) gg.calm gg.nd hN hloc
        (sw_true (by rw [xc.sc]; exact h7) hloc h3 hno) pi (blkOk_by (by rw [xc.N, xc.sc]; exact b1)) (fun s H C' cl fp => tgt_pg (X := X.blk s H sc (compEnvC sc cl C' X.env) fp) gg.calm (xb s H C' cl fp) gg.nd b3)
        (fun s H C' cl fp => pts_cnd (sndEs ifs) b4 b5 (xb s H C' cl fp) (gb s H C' cl fp)) (fun s H C' cl fp => (sndE elt _ _ _ _ b6 (xb s H C' cl fp) (gb s H C' cl fp)).1) hfs) fun D σr H ⟨F, ρ, σ, M, R, S, q⟩ => ?_
      simp only [exS] at q
      rw [own'_snd]
      refine lc_read (mu := mu) R S hown hgs ?_
      exact Pst.conseq (PstS.bind S q) fun v1 H1 ⟨F1, ρ1, w, M1, x1, R1, S1, r1, q1⟩ => q1.nx R1 (S1.set i r1)
    · cases h4
  · cases h
theorem putT {is : List Nat} {xs : List PyData} {σ σ' : Sl} (h2 : 2 ≤ is.length) (h : putAll is xs σ = some σ') : put is (.tuple xs) σ = some σ' := by
  match is, h2 with
  | [], h2 => exact absurd h2 (by simp)
  | [_], h2 => exact absurd h2 (by simp)
  | i :: j :: r, _ => exact h
theorem store_none {t v : Expr} {env : Env} (h : notTup v = true) : swappedStores [t] v env = pure none := by
  cases t <;> cases v <;> first | rfl | cases h
theorem noStars_any : ∀ {vs : List Expr}, noStars vs = true → (vs.any fun | .Starred .. => true | _ => false) = false
  | [], _ => rfl
  | e :: es, h => by
    unfold noStars at h
    rw [Bool.and_eq_true] at h
    rw [List.any_cons, noStars_any h.2, Bool.or_false]
    cases e <;> first | rfl | cases h.1
theorem store_fold {t v : Expr} {env : Env} (h : foldTup v = true) : swappedStores [t] v env = pure none := by
  cases v with
  | Tuple vs k p =>
    unfold foldTup at h
    rw [Bool.and_eq_true] at h
    have go : ∀ ts : List Expr, (do
      if !(ts.length == 2 || ts.length == 3) || vs.length != ts.length || env.blockKind != .function then return none
      if vs.any fun | .Starred .. => true | _ => false then return none
      let line := (ts.head?.map (·.pos.line)).getD 0
      let names := ts.filterMap fun
        | .Name id pos => if env.kindOf id == some .local && pos.line == line then some id else none
        | _ => none
      if names.length != ts.length || names.eraseDups.length != names.length then return none
      if vs.all (foldedForSure 8) then return none
      if vs.all (constantsAlone 8) then unsupported "assign.tuple-of-constant-expressions:order-of-the-stores"
      return some names : Sem (Option (List Str))) = pure none := fun ts => by
      split
      · rfl
      · simp only [noStars_any h.2, h.1]
        split
        · contradiction
        · split
          · rfl
          · rfl
    cases t with
    | Tuple ts _ _ => exact go ts
    | List ts _ => exact go ts
    | _ => rfl
  | _ => cases h
theorem snd_asgT (is : List Nat) (e : IE) : SndS g C cf (.asgT is e) := by
  intro c st X Wd h xc gg df
  unfold ckS at h
  split at h
  · rename_i t v hv
    obtain ⟨p, rfl⟩ := vAsg_eq hv
    simp only [Bool.and_eq_true, decide_eq_true_eq] at h
    obtain ⟨⟨⟨⟨h1, h2⟩, h3⟩, h4⟩, h5⟩ := h
    have ht : ∃ es k p', t = .Tuple es k p' := by
      match is, h2, h1 with
      | [], h2, _ => exact absurd h2 (by simp)
      | [_], h2, _ => exact absurd h2 (by simp)
      | i :: j :: r, _, h1 =>
        have h1' : (match vTup t with
          | some es => ckNs c (i :: j :: r) es
          | none => false) = true := h1
        cases he : vTup t with
        | none =>
          rw [he] at h1'
          cases h1'
        | some es =>
          obtain ⟨k, p', e⟩ := vTup_eq he
          exact ⟨es, k, p', e⟩
    obtain ⟨es, kk, p', rfl⟩ := ht
    refine PS.imp (ps_asg (sndE e c v X Wd h3 xc gg).1 (tgt_pg gg.calm xc gg.nd h1) (sole_plain h4) (by rw [Bool.or_eq_true] at h5; exact h5.elim store_none store_fold) rfl) fun D σr H ⟨F, ρ, σ, M, R, S, q⟩ => ?_
    simp only [exS] at q
    refine ⟨F, ρ, σ, M, R, S, Pst.conseq (PstS.bind S q) fun v1 H1 ⟨F1, ρ1, w, M1, x1, R1, S1, r1, q1⟩ => ?_⟩
    split at q1
    · split at q1
      · rename_i xs σ1 hp
        exact tgt_ok (own := []) R1 S1 r1 (putT h2 hp) (fun _ _ => .inr rfl) fun σr' S2 _ => q1.nx R1 S2
      · exact q1.elim
    · exact q1.elim
  · cases h
theorem asub {o i : Expr} {pos : Pos} {env : Env} (h : isSli i = false) : ∀ v, assign (.Subscript o i pos) env v = (do
      let a ← holding [v] (eval o env)
      let b ← holding [v, a] (eval i env)
      standAt pos
      holding [v, a, b] (setItem a b v)
      release [v, a, b] []) := by
  intro v
  cases i <;> first | rfl | cases h
theorem snd_setI (o i e : IE) : SndS g C cf (.setI o i e) := by
  intro c st X Wd h xc gg df
  unfold ckS at h
  split at h
  · rename_i t v hv
    obtain ⟨p, rfl⟩ := vAsg_eq hv
    split at h
    · rename_i eo ei ht
      obtain ⟨p', rfl, hsl⟩ := vSub_eq ht
      simp only [Bool.and_eq_true] at h
      obtain ⟨⟨⟨⟨h1, h2⟩, h3⟩, h4⟩, h5⟩ := h
      refine PS.imp (ps_asg (sndE e c v X Wd h3 xc gg).1 (pg_sub (sndE o c eo X Wd h1 xc gg).1 (sndE i c ei X Wd h2 xc gg).1 set_list (asub hsl)) (sole_plain h4) (store_none h5) rfl) fun D σr H ⟨F, ρ, σ, M, R, S, q⟩ => ?_
      simp only [exS] at q
      refine ⟨F, ρ, σ, M, R, S, Pst.conseq (PstS.bind S q) fun v1 H1 ⟨F1, ρ1, w1, M1, x1, R1, S1, r1, q1⟩ => ?_⟩
      refine ⟨F1, ρ1, σ, M1, R1, S1, Pst.conseq (PstS.bind S1 q1) fun v2 H2 ⟨F2, ρ2, w2, M2, x2, R2, S2, r2, q2⟩ => ?_⟩
      refine ⟨F2, ρ2, σ, M2, R2, S2, Pst.conseq (PstS.bind S2 q2) fun v3 H3 ⟨F3, ρ3, w3, M3, x3, R3, S3, r3, q3⟩ => ?_⟩
      split at q3
      · rename_i n z _
        split at q3
        · rename_i ws hM
          split at q3
          · rename_i j hj
            obtain ⟨a, ha, rfl⟩ := r2.mono x3
            obtain ⟨hF, vs, hH, hvs⟩ := R3.ob n a _ ha hM
            obtain ⟨R4, x4⟩ := R3.setL ha hF (VRs.set ((r1.mono x2).mono x3) j hvs)
            refine ⟨a, vs, z, j, rfl, VR.int r3, hH, by rw [hvs.length]; exact hj, ?_⟩
            exact PstS.nx (PstS.mono x4 q3) R4 (S3.mono x4)
          · exact q3.elim
        · exact q3.elim
      · exact q3.elim
    · cases h
  · cases h
theorem snd_setA (o : IE) (k : Nat) (e : IE) : SndS g C cf (.setA o k e) := by
  intro c st X Wd h xc gg df
  unfold ckS at h
  split at h
  · rename_i t v hv
    obtain ⟨p, rfl⟩ := vAsg_eq hv
    split at h
    · rename_i eo f ht
      obtain ⟨p', rfl, hcall⟩ := vAtt_eq ht
      simp only [Bool.and_eq_true, decide_eq_true_eq] at h
      obtain ⟨⟨⟨⟨h1, h2⟩, h3⟩, h4⟩, h5⟩ := h
      obtain ⟨hc, hn⟩ := gg.sl h1
      refine PS.imp (ps_fld (sndE o c eo X Wd h3 xc gg).1 (sndE e c v X Wd h4 xc gg).1 (swap_plain h5)) fun D σr H ⟨F, ρ, σ, M, R, S, q⟩ => ?_
      simp only [exS] at q
      refine ⟨F, ρ, σ, M, R, S, Pst.conseq (PstS.bind S q) fun v1 H1 ⟨F1, ρ1, w1, M1, x1, R1, S1, r1, q1⟩ => ?_⟩
      refine ⟨F1, ρ1, σ, M1, R1, S1, Pst.conseq (PstS.bind S1 q1) fun v2 H2 ⟨F2, ρ2, w2, M2, x2, R2, S2, r2, q2⟩ => ?_⟩
      split at q2
      · rename_i n
        split at q2
        · rename_i ws hM
          split at q2
          · rename_i us hu
            obtain ⟨a, ha, rfl⟩ := r2
            obtain ⟨hF, h0, dx, vs, hH, hvs⟩ := R2.ob n a _ ha hM
            have r1' := r1.mono x2
            have hlen := hvs.length
            have hz : VRs X.K F2 ρ2 (if k < vs.length then vs.set k v1 else vs ++ [v1]) us ∧ us.length ≤ 4 ∧ k ≤ vs.length := by
              unfold putA at hu
              split at hu
              · rename_i hk
                cases hu
                rw [if_pos (by rw [hlen]; exact hk)]
                exact ⟨VRs.set r1' k hvs, by rw [List.length_set]; exact h0, by omega⟩
              · rename_i hk
                split at hu
                · rename_i hk2
                  cases hu
                  rw [if_neg (by rw [hlen]; exact hk)]
                  exact ⟨VRs.append hvs (.cons r1' .nil), by rw [List.length_append, List.length_singleton]; omega, by omega⟩
                · cases hu
            have ho : OR X.K C F2 (upd H2 a (.ins (C 6) dx (putF f v1 (atNs.zip vs)))) ρ2 a (.ins us) := by
              refine ⟨hF, hz.2.1, dx, _, ?_, hz.1⟩
              rw [upd_same, zip_put k f v1 vs h2 (by omega) hz.2.2]
            obtain ⟨R4, x4⟩ := R2.write ha hF ho
            exact ⟨a, C 6, dx, _, rfl, hH, hc, hn f (List.mem_of_getElem? h2), zip_len vs, PstS.nx (PstS.mono x4 q2) R4 (S2.mono x4)⟩
          · exact q2.elim
        · exact q2.elim
      · exact q2.elim
    · cases h
  · cases h
theorem snd_aug (op : BO) (i : Nat) (e : IE) : SndS g C cf (.aug op i e) := by
  intro c st X Wd h xc gg df
  unfold ckS at h
  split at h
  · rename_i t oo v hv
    obtain ⟨p, rfl⟩ := vAug_eq hv
    simp only [Bool.and_eq_true] at h
    obtain ⟨⟨h1, h2⟩, h3⟩ := h
    unfold ckN at h1
    split at h1
    · rename_i x hx
      obtain ⟨p', rfl⟩ := vName_eq hx
      simp only [Bool.and_eq_true, decide_eq_true_eq] at h1
      have hN : X.N[i]? = some x := by
        rw [xc.N]
        exact h1.1.1
      have pe := (sndE e c v X Wd h3 xc gg).1
      cases op <;> cases oo <;> first | (cases h2; done) | skip
      · refine PS.imp (ps_aug gg.nd hN (xc.loc h1.1.2) pe (OpR.or iop_add iop_ext) (xc.sto h1.2)) fun D σr H ⟨F, ρ, σ, M, R, S, q⟩ => ?_
        simp only [exS] at q
        split at q
        · rename_i w0 hw0
          obtain ⟨v0, hv0, r0⟩ := S.at' i w0 hw0
          refine ⟨v0, hv0, F, ρ, σ, M, R, S, Pst.conseq (PstS.bind S q) fun v1 H1 ⟨F1, ρ1, w1, M1, x1, R1, S1, r1, q1⟩ => ?_⟩
          have r0' := r0.mono x1
          split at q1
          · rename_i a b _
            refine .inl ⟨a, b, VR.int r0', VR.int r1, ?_⟩
            exact q1.nx R1 (S1.set i (show VR X.K F1 ρ1 (.int (a + b)) (.d (.int (a + b))) from DR.int _))
          · rename_i n xs _
            split at q1
            · rename_i ws hM
              split at q1
              · rename_i hc
                obtain ⟨a, ha, rfl⟩ := r0'
                obtain ⟨hF, vs, hH, hvs⟩ := R1.ob n a _ ha hM
                have r1' : DR F1 v1 (.list xs) := r1
                cases r1' with
                | lst e1 e2 =>
                  obtain ⟨R4, x4⟩ := R1.setL ha hF (VRs.append hvs (VRs.of_data e2))
                  refine .inr ⟨a, _, vs, _, rfl, rfl, hH, R1.sub _ _ e1, capS (by rw [hvs.length, e2.length]; exact hc), ?_⟩
                  refine PstS.nx (PstS.mono x4 q1) R4 ?_
                  have eq : σr.set i (some (V.ref a)) = σr := by
                    refine ext_get fun (j : Nat) => ?_
                    by_cases hj : i = j
                    · subst hj
                      rw [hv0, List.getElem?_set_self (List.getElem?_eq_some_iff.mp hv0).1]
                    · rw [List.getElem?_set_ne hj]
                  rw [eq]
                  exact S1.mono x4
              · exact q1.elim
            · exact q1.elim
          · exact q1.elim
        · exact q.elim
      · refine PS.imp (ps_aug gg.nd hN (xc.loc h1.1.2) pe iop_sub (xc.sto h1.2)) fun D σr H ⟨F, ρ, σ, M, R, S, q⟩ => ?_
        simp only [exS] at q
        split at q
        · rename_i w0 hw0
          obtain ⟨v0, hv0, r0⟩ := S.at' i w0 hw0
          refine ⟨v0, hv0, F, ρ, σ, M, R, S, Pst.conseq (PstS.bind S q) fun v1 H1 ⟨F1, ρ1, w1, M1, x1, R1, S1, r1, q1⟩ => ?_⟩
          have r0' := r0.mono x1
          split at q1
          · rename_i a b _
            refine ⟨a, b, VR.int r0', VR.int r1, ?_⟩
            exact q1.nx R1 (S1.set i (show VR X.K F1 ρ1 (.int (a - b)) (.d (.int (a - b))) from DR.int _))
          · exact q1.elim
          · exact q1.elim
        · exact q.elim
    · cases h1
  · cases h
theorem snd_exp (e : IE) : SndS g C cf (.exp e) := by
  intro c st X Wd h xc gg df
  unfold ckS at h
  split at h
  · rename_i v hv
    obtain ⟨p, rfl⟩ := vExp_eq hv
    simp only [Bool.and_eq_true] at h
    refine PS.imp (ps_expr (sndE e c v X Wd h.1 xc gg).1 (swap_plain h.2)) fun D σr H ⟨F, ρ, σ, M, R, S, q⟩ => ?_
    simp only [exS] at q
    exact ⟨F, ρ, σ, M, R, S, Pst.conseq (PstS.bind S q) fun v1 H1 ⟨F1, ρ1, w, M1, x1, R1, S1, r1, q1⟩ => q1.nx R1 S1⟩
  · cases h
theorem snd_ret (e : IE) : SndS g C cf (.ret e) := by
  intro c st X Wd h xc gg df
  unfold ckS at h
  split at h
  · rename_i v hv
    obtain ⟨p, rfl⟩ := vRet_eq hv
    refine PS.imp (ps_ret (sndE e c v X Wd h xc gg).1) fun D σr H ⟨F, ρ, σ, M, R, S, q⟩ => ?_
    simp only [exS] at q
    exact ⟨F, ρ, σ, M, R, S, Pst.conseq (PstS.bind S q) fun v1 H1 ⟨F1, ρ1, w, M1, x1, R1, S1, r1, q1⟩ => q1 F1 H1 ρ1 v1 (.refl F1 H1 ρ1) R1 r1⟩
  · cases h
theorem snd_pass : SndS g C cf .pass := by
  intro c st X Wd h xc gg df
  unfold ckS at h
  obtain ⟨p, rfl⟩ := isPass_eq h
  refine PS.imp ps_pass fun D σr H ⟨F, ρ, σ, M, R, S, q⟩ => ?_
  simp only [exS] at q
  exact q.nx R S
theorem snd_app (o e : IE) : SndS g C cf (.app o e) := by
  intro c st X Wd h xc gg df
  unfold ckS at h
  split at h
  · rename_i v hv
    obtain ⟨p, rfl⟩ := vExp_eq hv
    split at h
    · rename_i eo ea ha
      obtain ⟨p1, p2, rfl, hline, hcall⟩ := isApp_eq ha
      simp only [Bool.and_eq_true] at h
      obtain ⟨⟨h1, h2⟩, h3⟩ := h
      have pargs : PA X [ea] (tCons (tI X.K C Wd (ev cf e)) tNil) := pa_cons (sndE e c ea X Wd h2 xc gg).1 pa_nil (star_cons h3)
      refine PS.imp (ps_expr (pe_bm PySem.F.plainAttrs_list PySem.F.slot_list_append PySem.F.type_list_append mt_append (sndE o c eo X Wd h1 xc gg).1 pargs (base_plain hcall) (few1 h3) hline (star_cons h3) rfl) rfl) fun D σr H ⟨F, ρ, σ, M, R, S, q⟩ => ?_
      simp only [exS] at q
      refine ⟨F, ρ, σ, M, R, S, Pst.conseq (PstS.bind S q) fun v1 H1 ⟨F1, ρ1, w1, M1, x1, R1, S1, r1, q1⟩ => ?_⟩
      split at q1
      · rename_i n
        split at q1
        · rename_i ws0 hM0
          obtain ⟨a, ha, rfl⟩ := r1
          obtain ⟨_, vs0, hH0, _⟩ := R1.ob n a _ ha hM0
          refine ⟨.inl ⟨rfl, _, .of hH0⟩, F1, ρ1, σ, M1, R1, S1, Pst.conseq (PstS.bind S1 q1) fun v2 H2 ⟨F2, ρ2, w2, M2, x2, R2, S2, r2, q2⟩ => ?_⟩
          split at q2
          · rename_i ws hM
            split at q2
            · rename_i hc
              obtain ⟨l, el, _⟩ := x2.p
              have ha2 : ρ2[n]? = some a := by
                rw [el]
                exact getElem?_pre ha
              obtain ⟨hF, vs, hH, hvs⟩ := R2.ob n a _ ha2 hM
              obtain ⟨R4, x4⟩ := R2.setL ha2 hF (VRs.append hvs (.cons r2 .nil))
              refine ⟨a, vs, v2, rfl, rfl, hH, ?_, PstS.nx (PstS.mono x4 q2) R4 (S2.mono x4)⟩
              rw [hvs.length]
              exact Nat.lt_of_lt_of_le hc (capS (Nat.le_refl _))
            · exact q2.elim
          · exact q2.elim
        · exact q1.elim
      · exact q1.elim
    · cases h
  · cases h
end
end Wl

set_option Elab.async false
set_option linter.all false
set_option maxRecDepth 100000
set_option maxHeartbeats 1000000
namespace Wl
open PySem PySem.Spec PyProof.Rows L2
section
variable {X : Cx}
def PSet.or {t t' : V → V → V → Hp → (Hp → Prop) → Prop} (h : PSet X t) (h' : PSet X t') : PSet X (fun o i v H Q => t o i v H Q ∨ t' o i v H Q) := by
  intro pins s σ H o i v ov iv u Q I ro ri rv q
  rcases q with q | q
  · exact h pins s σ H o i v ov iv u Q I ro ri rv q
  · exact h' pins s σ H o i v ov iv u Q I ro ri rv q
def rDputK : V → V → V → Hp → (Hp → Prop) → Prop := fun o i v H Q => ∃ a kvs k, o = .ref a ∧ i = .int k ∧ H a = some (.dK kvs) ∧ kvs.length < sizeLine ∧ Q (upd H a (.dK (putK kvs (.inl k) v)))
theorem set_dK (hu : X.A.units + 1 < cLine) : PSet X rDputK := by
  intro pins s σ H o i v ov iv u Q I ro ri rv h
  obtain ⟨a, kvs, k, rfl, rfl, ha, hl, q⟩ := h
  cases ro
  exact d_setItem hu I (DPut.k (k := .inl k) ha hl) ri rv fun s' I' => ⟨_, I', q⟩
end
section
variable {g : Gc} {C : Nat → Addr} {cf : CF}
theorem snd_setD (o i e : IE) : SndS g C cf (.setD o i e) := by
  intro c st X Wd h xc gg df
  unfold ckS at h
  split at h
  · rename_i t v hv
    obtain ⟨p, rfl⟩ := vAsg_eq hv
    split at h
    · rename_i eo ei ht
      obtain ⟨p', rfl, hsl⟩ := vSub_eq ht
      simp only [Bool.and_eq_true] at h
      obtain ⟨⟨⟨⟨h1, h2⟩, h3⟩, h4⟩, h5⟩ := h
      have hu := gg.hu
      refine PS.imp (ps_asg (sndE e c v X Wd h3 xc gg).1 (pg_sub (sndE o c eo X Wd h1 xc gg).1 (sndE i c ei X Wd h2 xc gg).1 (PSet.or (set_dN hu) (set_dK (by omega))) (asub hsl)) (sole_plain h4) (store_none h5) rfl) fun D σr H ⟨F, ρ, σ, M, R, S, q⟩ => ?_
      simp only [exS] at q
      refine ⟨F, ρ, σ, M, R, S, Pst.conseq (PstS.bind S q) fun v1 H1 z1 => ?_⟩
      obtain ⟨F1, ρ1, w1, M1, x1, R1, S1, r1, q1⟩ := z1
      refine ⟨F1, ρ1, σ, M1, R1, S1, Pst.conseq (PstS.bind S1 q1) fun v2 H2 z2 => ?_⟩
      obtain ⟨F2, ρ2, w2, M2, x2, R2, S2, r2, q2⟩ := z2
      refine ⟨F2, ρ2, σ, M2, R2, S2, Pst.conseq (PstS.bind S2 q2) fun v3 H3 z3 => ?_⟩
      obtain ⟨F3, ρ3, w3, M3, x3, R3, S3, r3, q3⟩ := z3
      split at q3
      · rename_i y n z
        have dv : DR F3 v1 y := DR.mono (x2.trans x3).f _ _ (show DR F1 v1 y from r1)
        split at q3
        · rename_i kvs hM
          split at q3
          · rename_i hc
            obtain ⟨a, ha, rfl⟩ := r2.mono x3
            obtain ⟨hF, xs, hH, pr⟩ := R3.ob n a _ ha hM
            obtain ⟨b, kk, rfl, k1, k2, k3, k4⟩ := key_r R3 (show DR F3 v3 z from r3) hc.1
            have hl : xs.length = kvs.length := Paired.length pr
            obtain ⟨R4, x4⟩ := R3.write (o := dctO a (putX xs kk b v1)) (z := .dct true (dput z y kvs)) ha hF ⟨hF, _, upd_same, put_r k1 k2 k3 dv pr⟩
            refine .inl ⟨a, b, xs, kk, rfl, rfl, hH, keys_r R3 pr, k4, ?_, PstS.nx (PstS.mono x4 q3) R4 (S3.mono x4)⟩
            rw [hl]
            exact Nat.lt_of_lt_of_le hc.2 (capS (Nat.le_refl _))
          · exact q3.elim
        · rename_i kvs hM
          split at q3
          · rename_i hc
            obtain ⟨a, ha, rfl⟩ := r2.mono x3
            obtain ⟨hF, ks, hH, pr⟩ := R3.ob n a _ ha hM
            cases z with
            | int k =>
              have hl : ks.length = kvs.length := Paired.length pr
              obtain ⟨R4, x4⟩ := R3.write (o := .dK (putK ks (.inl k) v1)) (z := .dct false (dput (.int k) y kvs)) ha hF ⟨hF, _, upd_same, kr_put dv pr⟩
              refine .inr ⟨a, ks, k, rfl, VR.int r3, hH, ?_, PstS.nx (PstS.mono x4 q3) R4 (S3.mono x4)⟩
              rw [hl]
              exact Nat.lt_of_lt_of_le hc.2 (capS (Nat.le_refl _))
            | _ => exact nomatch hc.1
          · exact q3.elim
        · exact q3.elim
      · exact q3.elim
    · cases h
  · cases h
theorem PstS.bindL {K : PySem.W.Frag} {F H : Hp} {ρ : List Addr} {Wd : WX} {D : Ends} {σ : Sl} {σr : L2.St} {o : Option OutL} {f : List W → MH → Option SO} (S : SR K F ρ σ σr) (h : PstS K C F H ρ Wd D (obLS o σ f)) :
    PstL K C F H ρ (EW C Wd σr) (fun vs H' => ∃ F' ρ' ws M', Ext F H ρ F' H' ρ' ∧ Rl K C F' H' ρ' M' ∧ SR K F' ρ' σ σr ∧ VRs K F' ρ' vs ws ∧ PstS K C F' H' ρ' Wd D (f ws M')) o := by
  cases o with
  | none => exact h
  | some o =>
    cases o with
    | val w M' => exact fun F2 H2 ρ2 v x R r => ⟨F2, ρ2, w, M', x, R, S.mono x, r, PstS.mono x h⟩
    | exc c M' => exact fun F2 H2 ρ2 x R => h F2 H2 ρ2 σr x R (S.mono x)
theorem gAllW_ok {K : PySem.W.Frag} {F : Hp} {ρ : List Addr} {H : Hp} {Q : L2.St → Hp → Prop} : ∀ {is : List Nat} {ws : List W} {vs : List V} {σ σ' : Sl} {σr : L2.St}, setAll is ws σ = some σ' → SR K F ρ σ σr → VRs K F ρ vs ws → (∀ σr', SR K F ρ σ' σr' → Q σr' H) → gAll is vs σr H Q
  | [], [], _, _, _, _, h, S, .nil, k => by
    cases h
    exact ⟨rfl, k _ S⟩
  | [], _ :: _, _, _, _, _, h, _, _, _ => by cases h
  | _ :: _, [], _, _, _, _, h, _, _, _ => by cases h
  | i :: is, w :: ws, _, σ, σ', σr, h, S, .cons (a := v) (l₁ := vs') r rs, k =>
    ⟨v, vs', rfl, gAllW_ok (show setAll is ws (σ.set i (some w)) = some σ' from h) (S.set i r) rs k⟩
theorem setAll_len : ∀ {is : List Nat} {ws : List W} {σ σ' : Sl}, setAll is ws σ = some σ' → is.length = ws.length
  | [], [], _, _, _ => rfl
  | [], _ :: _, _, _, h => by cases h
  | _ :: _, [], _, _, h => by cases h
  | i :: is, w :: ws, σ, σ', h => by rw [List.length_cons, List.length_cons, setAll_len (show setAll is ws (σ.set i (some w)) = some σ' from h)]
theorem ckN_inv {X : Cx} {c : Cc} {i : Nat} {x : Str} {p : Pos} (xc : XC X c) (h : ckN c i (.Name x p) = true) : X.N[i]? = some x := by
  unfold ckN at h
  simp only [vName, Bool.and_eq_true, decide_eq_true_eq] at h
  rw [xc.N]
  exact h.1.1
theorem lcN_lk {sc : Scope} {x : Str} (h : lcN sc x = true) : sc.names.lookup x = some .local := by
  unfold lcN at h
  split at h
  · assumption
  · cases h
theorem snd_asgP (is : List Nat) (es : IEs) : SndS g C cf (.asgP is es) := by
  intro c st X Wd h xc gg df
  unfold ckS at h
  split at h
  · rename_i t v hv
    obtain ⟨p, rfl⟩ := vAsg_eq hv
    split at h
    · rename_i ts vs ht hvs
      obtain ⟨k1, p1, rfl⟩ := vTup_eq ht
      obtain ⟨k2, p2, rfl⟩ := vTup_eq hvs
      simp only [Bool.and_eq_true, decide_eq_true_eq, Bool.not_eq_true', Bool.or_eq_true] at h
      obtain ⟨⟨⟨⟨⟨⟨h0, h1⟩, h2⟩, h3⟩, h4⟩, h5⟩, h6⟩ := h
      have pa := (sndEs es c vs X Wd h1 xc gg).1
      rcases h6 with h6 | h6
      · unfold swOk at h6
        simp only [Bool.and_eq_true, decide_eq_true_eq, Bool.not_eq_true'] at h6
        obtain ⟨⟨⟨f1, f2⟩, f3⟩, f4⟩ := h6
        have hf : X.env.scope.kind = .function := by
          rw [xc.sc]
          exact f1
        split at f4
        · rename_i x px y py
          simp only [Bool.and_eq_true, decide_eq_true_eq, Bool.not_eq_true'] at f4
          obtain ⟨⟨⟨⟨g1, g2⟩, g3⟩, g4⟩, g5⟩ := f4
          match is, h3, h4 with
          | [], h3, _ => cases h3
          | [_], h3, _ =>
            unfold ckNs at h3
            rw [Bool.and_eq_true] at h3
            cases h3.2
          | _ :: _ :: _ :: _, h3, _ =>
            unfold ckNs ckNs at h3
            rw [Bool.and_eq_true, Bool.and_eq_true] at h3
            cases h3.2.2
          | [i, j], h3, h4 =>
            unfold ckNs ckNs at h3
            rw [Bool.and_eq_true, Bool.and_eq_true] at h3
            have hij : i ≠ j := by
              rw [List.nodup_cons] at h4
              intro z
              exact h4.1 (by simp [z])
            match vs, g5, pa, h1, h2, f2, f3, hvs with
            | [a, b], g5, pa, h1, h2, f2, f3, hvs =>
              rw [← xc.sc] at g1 g2
              refine PS.imp (ps_par gg.calm gg.nd (ckN_inv xc h3.1) (ckN_inv xc h3.2.1) hij (lcN_lk g1) (lcN_lk g2) pa (sw_two hf g1 g2 g3 g4 g5 h2 f2 f3)) fun D σr H ⟨F, ρ, σ, M, R, S, q⟩ => ?_
              simp only [exS] at q
              refine ⟨F, ρ, σ, M, R, S, PstL.conseq (PstS.bindL S q) fun v1 H1 ⟨F1, ρ1, w1, M1, x1, R1, S1, r1, q1⟩ => ?_⟩
              split at q1
              · rename_i σ1 hset
                have hl := setAll_len hset
                match w1, hl, r1, hset with
                | [wa, wb], _, r1, hset =>
                  obtain ⟨va, vb, rfl, ra, rb⟩ := r1.two
                  cases hset
                  exact ⟨va, vb, rfl, q1.nx R1 ((S1.set i ra).set j rb)⟩
              · exact q1.elim
        · rename_i x px y py z pz
          simp only [Bool.and_eq_true, decide_eq_true_eq, Bool.not_eq_true'] at f4
          obtain ⟨⟨⟨⟨⟨⟨⟨⟨g1, g2⟩, g3⟩, g4⟩, g5⟩, g6⟩, g7⟩, g8⟩, g9⟩ := f4
          match is, h3, h4 with
          | [], h3, _ => cases h3
          | [_], h3, _ =>
            unfold ckNs at h3
            rw [Bool.and_eq_true] at h3
            cases h3.2
          | [_, _], h3, _ =>
            unfold ckNs ckNs at h3
            rw [Bool.and_eq_true, Bool.and_eq_true] at h3
            cases h3.2.2
          | _ :: _ :: _ :: _ :: _, h3, _ =>
            unfold ckNs ckNs ckNs at h3
            rw [Bool.and_eq_true, Bool.and_eq_true, Bool.and_eq_true] at h3
            cases h3.2.2.2
          | [i, j, l], h3, h4 =>
            unfold ckNs ckNs ckNs at h3
            rw [Bool.and_eq_true, Bool.and_eq_true, Bool.and_eq_true] at h3
            have hd := h4
            rw [List.nodup_cons, List.nodup_cons] at hd
            have hij : i ≠ j := fun z => hd.1 (by simp [z])
            have hil : i ≠ l := fun z => hd.1 (by simp [z])
            have hjl : j ≠ l := fun z => hd.2.1 (by simp [z])
            match vs, g9, pa, h1, h2, f2, f3, hvs with
            | [a, b, d], g9, pa, h1, h2, f2, f3, hvs =>
              rw [← xc.sc] at g1 g2 g3
              refine PS.imp (ps_par3 gg.calm gg.nd (ckN_inv xc h3.1) (ckN_inv xc h3.2.1) (ckN_inv xc h3.2.2.1) hij hil hjl (lcN_lk g1) (lcN_lk g2) (lcN_lk g3) pa (sw_three hf g1 g2 g3 g4 g5 g6 g7 g8 g9 h2 f2 f3)) fun D σr H ⟨F, ρ, σ, M, R, S, q⟩ => ?_
              simp only [exS] at q
              refine ⟨F, ρ, σ, M, R, S, PstL.conseq (PstS.bindL S q) fun v1 H1 ⟨F1, ρ1, w1, M1, x1, R1, S1, r1, q1⟩ => ?_⟩
              split at q1
              · rename_i σ1 hset
                have hl := setAll_len hset
                match w1, hl, r1, hset with
                | [wa, wb, wd], _, .cons ra (.cons rb (.cons rd .nil)), hset =>
                  cases hset
                  exact ⟨_, _, _, rfl, q1.nx R1 (((S1.set i ra).set j rb).set l rd)⟩
              · exact q1.elim
        · cases f4
      · obtain ⟨q1, q2, q3⟩ := pgs_all xc gg.nd h3
        refine PS.imp (ps_asg (pe_tup pa) (pg_tup gg.calm q1 q2 q3) (sole_plain h5) (sw_none h2 (by rw [xc.sc]; exact h6.1)) rfl) fun D σr H ⟨F, ρ, σ, M, R, S, q⟩ => ?_
        simp only [exS] at q
        refine ⟨F, ρ, σ, M, R, S, PstL.conseq (PstS.bindL S q) fun v1 H1 ⟨F1, ρ1, w1, M1, x1, R1, S1, r1, q1⟩ => ?_⟩
        split at q1
        · rename_i σ1 hset
          have hl := setAll_len hset
          have hv1 : v1.length = is.length := by rw [r1.length, hl]
          refine ⟨by rw [hv1, sizeLine_eq]; omega, fun p hp => ?_⟩
          refine ⟨p, v1, rfl, .of upd_same, hv1, gAllW_ok hset S1 r1 fun σr' S' => ?_⟩
          have xt : Ext F1 H1 ρ1 F1 (upd H1 p (.tup v1)) ρ1 := Ext.newH hp
          exact PstS.nx (PstS.mono xt q1) (R1.newH hp) S'
        · exact q1.elim
    · cases h
  · cases h
end
end Wl

set_option Elab.async false
set_option linter.all false
set_option maxRecDepth 100000
set_option maxHeartbeats 1000000
namespace Wl
open PySem PySem.Spec PyProof.Rows L2
section
variable {K : PySem.W.Frag} {C : Nat → Addr} {F F' H H' : Hp} {ρ ρ' : List Addr} {Wd : WX} {D D' : Ends} {σ : Sl} {σr : L2.St} {M : MH}
theorem PstS.conseq {o : Option SO} (h : PstS K C F H ρ Wd D o) (hn : ∀ σ H, D.nx σ H → D'.nx σ H) (hr : ∀ v H, D.rt v H → D'.rt v H) : PstS K C F H ρ Wd D' o := by
  cases o with
  | none => exact h
  | some o =>
    cases o with
    | nx σ M' => exact fun F2 H2 ρ2 v x R r => hn _ _ (h F2 H2 ρ2 v x R r)
    | rt w M' => exact fun F2 H2 ρ2 v x R r => hr _ _ (h F2 H2 ρ2 v x R r)
    | ex c σ M' => exact h
theorem PstI.conseq {E : Nat → Hp → Prop} {Q Q' : It → Hp → Prop} {o : Option OutI} (h : PstI K C F H ρ E Q o) (i : ∀ v H', Q v H' → Q' v H') : PstI K C F H ρ E Q' o := by
  cases o with
  | none => exact h
  | some o =>
    cases o with
    | val w M' => exact fun F2 H2 ρ2 v x R r => i _ _ (h F2 H2 ρ2 v x R r)
    | exc c M' => exact h
/-- a block's end, then what is done next -/
theorem PstS.bindX {o : Option SO} {f : Sl → MH → Option SO} (h : PstS K C F H ρ Wd D (match o with
    | some (.nx σ1 M1) => f σ1 M1
    | o => o)) : PstS K C F H ρ Wd { D with nx := fun σr' H' => ∃ F' ρ' σ' M', Ext F H ρ F' H' ρ' ∧ Rl K C F' H' ρ' M' ∧ SR K F' ρ' σ' σr' ∧ PstS K C F' H' ρ' Wd D (f σ' M') } o := by
  cases o with
  | none => exact h
  | some o =>
    cases o with
    | nx σ M' => exact fun F2 H2 ρ2 v x R r => ⟨F2, ρ2, σ, M', x, R, r, PstS.mono x h⟩
    | rt w M' => exact h
    | ex c σ M' => exact h
end
section
variable {g : Gc} {C : Nat → Addr} {cf : CF}
theorem snd_ite (t : IE) (a b : ISs) (ha : SndSs g C cf a) (hb : SndSs g C cf b) : SndS g C cf (.ite t a b) := by
  intro c st X Wd h xc gg df
  unfold ckS at h
  split at h
  · rename_i et sa sb hv
    obtain ⟨p, rfl⟩ := vIf_eq hv
    simp only [Bool.and_eq_true] at h
    obtain ⟨⟨⟨h1, h2⟩, h3⟩, h4⟩ := h
    refine PS.imp (ps_if ((sndE t c et X Wd h1 xc gg).2 h2) (ha c sa X Wd h3 xc gg df) (hb c sb X Wd h4 xc gg df)) fun D σr H ⟨F, ρ, σ, M, R, S, q⟩ => ?_
    simp only [exS] at q
    refine ⟨F, ρ, σ, M, R, S, Pst.conseq (PstS.bind S q) fun v1 H1 ⟨F1, ρ1, w, M1, x1, R1, S1, r1, q1⟩ => ?_⟩
    split at q1
    · refine ⟨true, VR.bl r1, iteT ?_⟩
      exact ⟨F1, ρ1, σ, M1, R1, S1, q1⟩
    · refine ⟨false, VR.bl r1, iteF ?_⟩
      exact ⟨F1, ρ1, σ, M1, R1, S1, q1⟩
    · exact q1.elim
  · cases h
theorem snd_for (it : II) (tg : List Nat) (b : ISs) (hb : SndSs g C cf b) : SndS g C cf (.for it tg b) := by
  intro c st X Wd h xc gg df
  unfold ckS at h
  split at h
  · rename_i et ei sb hv
    obtain ⟨p, rfl⟩ := vFor_eq hv
    simp only [Bool.and_eq_true] at h
    obtain ⟨⟨h1, h2⟩, h3⟩ := h
    obtain ⟨pi, hfs⟩ := sndI it c ei et X Wd h1 xc gg
    refine PS.imp (ps_for df.po gg.calm pi (tgt_pg gg.calm xc gg.nd h2) (hb c sb X Wd h3 xc gg df) hfs) fun D σr H ⟨F, ρ, σ, M, R, S, q⟩ => ?_
    simp only [exS] at q
    refine ⟨F, ρ, σ, M, R, S, PstI.conseq (PstS.bindI S q) fun J H1 ⟨F1, ρ1, xs, M1, x1, R1, S1, k1, q1⟩ => ?_⟩
    refine ⟨fun i m σr2 H2 => ∃ (F2 : Hp) (ρ2 : List Addr) (σ2 : Sl) (M2 : MH), Same F1 F2 ∧ Rl X.K C F2 H2 ρ2 M2 ∧ SR X.K F2 ρ2 σ2 σr2 ∧ i ≤ xs.length ∧ m = xs.length - i ∧
      PstS X.K C F2 H2 ρ2 Wd D (forF (fun x σ1 N => match put tg x σ1 with
        | some σ2 => exSs cf b σ2 N
        | none => none) (xs.drop i) σ2 M2), ⟨xs.length, F1, ρ1, σ, M1, .refl F1, R1, S1, Nat.zero_le _, rfl, q1⟩, ?_⟩
    rintro i m σr2 H2 ⟨F2, ρ2, σ2, M2, s2, R2, S2, hi, hm, q2⟩
    rcases Nat.lt_or_ge i xs.length with hl | hl
    · refine .inr ⟨k1.go i H2 (s2.trans R2.sub) hl, fun σ' H' => ∃ (F2 : Hp) (ρ2 : List Addr) (σ2 : Sl) (M2 : MH), Same F1 F2 ∧ Rl X.K C F2 H' ρ2 M2 ∧ SR X.K F2 ρ2 σ2 σ' ∧
        PstS X.K C F2 H' ρ2 Wd D (forF (fun x σ1 N => match put tg x σ1 with
          | some σ2 => exSs cf b σ2 N
          | none => none) (xs.drop (i + 1)) σ2 M2), fun σ' H' ⟨F3, ρ3, σ3, M3, s3, R3, S3, q3⟩ => ⟨xs.length - (i + 1), by omega, F3, ρ3, σ3, M3, s3, R3, S3, hl, rfl, q3⟩, fun v H' hy => ?_⟩
      have hx : xs[i]? = some xs[i] := List.getElem?_eq_getElem hl
      obtain ⟨F3, x3, R3, r3⟩ := k1.yld i H2 v H' F2 ρ2 M2 _ s2 R2 hx hy
      rw [List.drop_eq_getElem_cons hl] at q2
      unfold forF at q2
      cases hp : put tg xs[i] σ2 with
      | none =>
        rw [hp] at q2
        exact q2.elim
      | some σ3 =>
        rw [hp] at q2
        refine tgt_ok (own := []) R3 (S2.mono x3) r3 hp (fun _ _ => .inr rfl) fun σr' S4 _ => ?_
        refine ⟨F3, ρ2, σ3, M2, R3, S4, PstS.mono x3 (PstS.conseq (PstS.bindX q2) (fun σ' H' ⟨F5, ρ5, σ5, M5, x5, R5, S5, q5⟩ => ?_) fun _ _ z => z)⟩
        exact ⟨F5, ρ5, σ5, M5, s2.trans x5.f, R5, S5, q5⟩
    · refine .inl ?_
      have e : i = xs.length := Nat.le_antisymm hi hl
      subst e
      rw [List.drop_length] at q2
      exact ⟨k1.stop H2 (s2.trans R2.sub), q2.nx R2 S2⟩
  · cases h
theorem snd_whl (t : IE) (b : ISs) (hb : SndSs g C cf b) : SndS g C cf (.whl t b) := by
  intro c st X Wd h xc gg df
  unfold ckS at h
  split at h
  · rename_i et sb hv
    obtain ⟨p, rfl⟩ := vWhl_eq hv
    simp only [Bool.and_eq_true] at h
    obtain ⟨⟨h1, h2⟩, h3⟩ := h
    refine PS.imp (ps_while df.po ((sndE t c et X Wd h1 xc gg).2 h2) (hb c sb X Wd h3 xc gg df)) fun D σr H ⟨F, ρ, σ, M, R, S, q⟩ => ?_
    simp only [exS] at q
    refine ⟨fun m σr2 H2 => ∃ (F2 : Hp) (ρ2 : List Addr) (σ2 : Sl) (M2 : MH), Rl X.K C F2 H2 ρ2 M2 ∧ SR X.K F2 ρ2 σ2 σr2 ∧ PstS X.K C F2 H2 ρ2 Wd D (whF (ev cf t) (exSs cf b) m σ2 M2), ⟨2000, F, ρ, σ, M, R, S, q⟩, ?_⟩
    rintro m σr2 H2 ⟨F2, ρ2, σ2, M2, R2, S2, q2⟩
    cases m with
    | zero => exact q2.elim
    | succ m =>
      unfold whF at q2
      refine ⟨F2, ρ2, σ2, M2, R2, S2, ?_⟩
      split at q2
      · rename_i M3 he
        rw [he]
        intro F3 H3 ρ3 v3 x3 R3 r3
        refine ⟨true, VR.bl r3, iteT ?_⟩
        refine ⟨fun σ' H' => ∃ (F2 : Hp) (ρ2 : List Addr) (σ2 : Sl) (M2 : MH), Rl X.K C F2 H' ρ2 M2 ∧ SR X.K F2 ρ2 σ2 σ' ∧ PstS X.K C F2 H' ρ2 Wd D (whF (ev cf t) (exSs cf b) m σ2 M2), fun σ' H' z => ⟨m, Nat.lt_succ_self m, z⟩, ?_⟩
        refine ⟨F3, ρ3, σ2, M3, R3, S2.mono x3, PstS.conseq (PstS.bindX (PstS.mono x3 q2)) (fun σ' H' ⟨F5, ρ5, σ5, M5, x5, R5, S5, q5⟩ => ?_) fun _ _ z => z⟩
        exact ⟨F5, ρ5, σ5, M5, R5, S5, q5⟩
      · rename_i M3 he
        rw [he]
        intro F3 H3 ρ3 v3 x3 R3 r3
        refine ⟨false, VR.bl r3, iteF ?_⟩
        exact q2 F3 H3 ρ3 σr2 x3 R3 (S2.mono x3)
      · rename_i k M3 he
        rw [he]
        exact fun F3 H3 ρ3 x3 R3 => q2 F3 H3 ρ3 σr2 x3 R3 (S2.mono x3)
      · exact q2.elim
  · cases h
theorem snd_rse (k : Nat) : SndS g C cf (.rse k) := by
  intro c st X Wd h xc gg df
  unfold ckS at h
  split at h
  · rename_i x hv
    obtain ⟨p1, m, j, p2, p3, p4, rfl⟩ := vRse_eq hv
    simp only [Bool.and_eq_true, decide_eq_true_eq] at h
    obtain ⟨⟨h1, h2⟩, h3⟩ := h
    by_cases hk : 1 ≤ k ∧ k < 6
    · obtain ⟨q1, q2, q3⟩ := gg.rse k x h1 (okN_e h2) hk.1
      refine PS.imp (ps_raise gg.calm gg.tk (pmk_own PySem.F.excBase_ValueError q1 (gg.cls k x h1 (okN_e h2)) q2 q3 (xc.gl h3) (okN_d h2))) fun D σr H ⟨F, ρ, σ, M, R, S, q⟩ => ?_
      simp only [exS] at q
      rw [if_pos hk] at q
      exact q F H ρ σr (.refl F H ρ) R S
    · refine PS.imp ps_never fun D σr H ⟨F, ρ, σ, M, R, S, q⟩ => ?_
      simp only [exS] at q
      rw [if_neg hk] at q
      exact q
  · cases h
theorem lcl_kind {X : Cx} {c : Cc} {x : Str} (xc : XC X c) (h : lclB c x = true) : X.env.kindOf x = some .local := by
  unfold lclB at h
  unfold Env.kindOf
  rw [xc.sc]
  split at h
  · assumption
  · cases h
theorem snd_try (b : ISs) (i j : Nat) (hb : SndSs g C cf b) : SndS g C cf (.try b i j) := by
  intro c st X Wd h xc gg df
  unfold ckS at h
  split at h
  · rename_i sb x n y m hv
    obtain ⟨p1, p2, p3, p4, p5, p6, rfl⟩ := vTry_eq hv
    simp only [Bool.and_eq_true, decide_eq_true_eq] at h
    obtain ⟨⟨⟨⟨⟨⟨⟨⟨⟨⟨⟨h1, h2⟩, h3⟩, h4⟩, h5⟩, h6⟩, h7⟩, h8⟩, h9⟩, h10⟩, rfl⟩, h11⟩ := h
    refine PS.imp (ps_try_kept (tb := fun W => tS X.K C W (exSs cf b)) (c := .ref (C 0)) df.st df.ex df.fr gg.nd (by rw [xc.N]; exact h5) (by rw [xc.N]; exact h6) h7 (lcl_kind xc h8) (lcl_kind xc h9) h10
      ⟨xc.gl h4, okN_d h3, .inl (gg.cls 0 x h2 (okN_e h3))⟩ (fun W ps xe tk po => hb c sb (X.tr ps xe) W h11 ⟨xc.N, xc.sc, xc.fn⟩ (gg.tr tk) ⟨po, df.st, df.fr, df.ex⟩)) fun D σr H ⟨F, ρ, σ, M, R, S, q⟩ => ?_
    simp only [exS] at q
    refine ⟨F, ρ, σ, M, R, S, ?_⟩
    show PstS X.K C F H ρ _ D (exSs cf b σ M)
    split at q
    · rename_i k σ1 M1 he
      rw [he]
      split at q
      · rename_i hk
        intro F1 H1 ρ1 σr1 x1 R1 S1
        refine ⟨rfl, gg.exm h1 k hk.1 hk.2, C k, rfl, fun a ha => ?_⟩
        have R2 := R1.newO (o := .ext (excP a (C k))) (z := .exc k) ha ⟨R1.freshF ha, upd_same⟩
        have rv : VR X.K F1 (ρ1 ++ [a]) (.ref a) (.m M1.length) := ⟨a, by
          rw [← R1.len, List.getElem?_append_right (Nat.le_refl _), Nat.sub_self]
          rfl, rfl⟩
        exact q F1 _ (ρ1 ++ [a]) _ (x1.trans (Ext.newM ha)) R2 (SR.none (SR.set (S1.mono (Ext.newM (o := .ext (excP a (C k))) ha)) j rv) i)
      · exact q.elim
    · rename_i hne
      cases he : exSs cf b σ M with
      | none =>
        rw [he] at q
        exact q
      | some o =>
        rw [he] at q
        cases o with
        | nx σ1 M1 => exact q
        | rt w M1 => exact q
        | ex k σ1 M1 => exact absurd he (hne k σ1 M1)
  · cases h
theorem sts_nil : SndSs g C cf .nil := by
  intro c st X Wd h xc gg df
  cases st with
  | nil =>
    refine PSs.imp pss_nil fun D σr H ⟨F, ρ, σ, M, R, S, q⟩ => ?_
    simp only [exSs] at q
    exact q.nx R S
  | cons _ _ => cases h
theorem sts_frz (i : Nat) (ss : ISs) (hs : SndSs g C cf ss) : SndSs g C cf (.cons (.frz i) ss) := by
  intro c st X Wd h xc gg df
  unfold ckSs at h
  refine PSs.imp (hs c st X Wd h xc gg df) fun D σr H ⟨F, ρ, σ, M, R, S, q⟩ => ?_
  simp only [exSs, exS] at q
  cases e1 : σ[i]? with
  | none =>
    rw [e1] at q
    exact q.elim
  | some w =>
    rw [e1] at q
    cases w with
    | none => exact q.elim
    | some w =>
      cases w with
      | d _ => exact q.elim
      | s _ => exact q.elim
      | m n =>
        cases e2 : M[n]? with
        | none =>
          simp only [frzM, e2] at q
          exact q.elim
        | some z =>
          cases z with
          | lst ws =>
            cases e3 : dats ws with
            | none =>
              simp only [frzM, e2, e3] at q
              exact q.elim
            | some xs =>
              simp only [frzM, e2, e3] at q
              obtain ⟨v, hv, a, ha, rfl⟩ := S.at' i _ e1
              obtain ⟨F', R', x', d'⟩ := R.frz ha e2 e3
              exact ⟨F', ρ, _, _, R', (S.mono x').redesc (w := .d (.list xs)) hv d', PstS.mono x' q⟩
          | dct _ _ =>
            simp only [frzM, e2] at q
            exact q.elim
          | ins _ =>
            simp only [frzM, e2] at q
            exact q.elim
          | exc _ =>
            simp only [frzM, e2] at q
            exact q.elim
          | dead =>
            simp only [frzM, e2] at q
            exact q.elim
theorem ck_not_frz {s : IS} {ss : ISs} {c : Cc} {l : List Stmt} (h : ckSs g (.cons s ss) c l = true) (hn : ∀ i, s ≠ .frz i) : ∃ st r, l = st :: r ∧ ckS g s c st = true ∧ ckSs g ss c r = true := by
  cases s with
  | frz i => exact absurd rfl (hn i)
  | _ =>
    cases l with
    | nil =>
      unfold ckSs at h
      cases h
    | cons st r =>
      unfold ckSs at h
      simp only [Bool.and_eq_true] at h
      exact ⟨st, r, rfl, h.1, h.2⟩
theorem sts_cons (s : IS) (ss : ISs) (hs : SndS g C cf s) (hss : SndSs g C cf ss) (hn : ∀ i, s ≠ .frz i) : SndSs g C cf (.cons s ss) := by
  intro c l X Wd h xc gg df
  obtain ⟨st, r, rfl, h1, h2⟩ := ck_not_frz h hn
  refine PSs.imp (pss_cons (hs c st X Wd h1 xc gg df) (hss c r X Wd h2 xc gg df)) fun D σr H ⟨F, ρ, σ, M, R, S, q⟩ => ?_
  simp only [exSs] at q
  refine ⟨F, ρ, σ, M, R, S, PstS.conseq (PstS.bindX q) (fun σ' H' ⟨F5, ρ5, σ5, M5, x5, R5, S5, q5⟩ => ?_) fun _ _ z => z⟩
  exact ⟨F5, ρ5, σ5, M5, R5, S5, q5⟩
mutual
theorem sndS : ∀ s : IS, SndS g C cf s
  | .asg i e => snd_asg i e
  | .asgC i mu own it tg ifs elt => snd_asgC i mu own it tg ifs elt
  | .asgT is e => snd_asgT is e
  | .asgP is es => snd_asgP is es
  | .setI o i e => snd_setI o i e
  | .setD o i e => snd_setD o i e
  | .aug op i e => snd_aug op i e
  | .exp e => snd_exp e
  | .app o e => snd_app o e
  | .ret e => snd_ret e
  | .ite t a b => snd_ite t a b (sndSs a) (sndSs b)
  | .for it tg b => snd_for it tg b (sndSs b)
  | .whl t b => snd_whl t b (sndSs b)
  | .rse k => snd_rse k
  | .try b i j => snd_try b i j (sndSs b)
  | .pass => snd_pass
  | .setA o k e => snd_setA o k e
  | .frz i => fun c st X Wd h => by
    unfold ckS at h
    cases h
theorem sndSs : ∀ s : ISs, SndSs g C cf s
  | .nil => sts_nil
  | .cons s ss => by
    by_cases h : ∃ i, s = .frz i
    · obtain ⟨i, rfl⟩ := h
      exact sts_frz i ss (sndSs ss)
    · exact sts_cons s ss (sndS s) (sndSs ss) fun i e => h ⟨i, e⟩
end
end
end Wl

set_option Elab.async false
set_option linter.all false
set_option maxRecDepth 100000
set_option maxHeartbeats 1000000
namespace Wl
open PySem PySem.Spec PyProof.Rows L2
/-! ### defs -/
/-- what is known of the program -/
structure Tb (g : Gc) (T : List FI) (C : Nat → Addr) (K : PySem.W.Frag) (mg : Str → Option Value) (fa : Nat → Addr) (fd : Nat → FuncData) (S : Nat → Stmt) : Prop where
  nog : ∀ x ∈ nogl, mg x = none
  cst : ∀ x v, g.gl.lookup x = some v → ∃ u w, mg x = some u ∧ RelV w u ∧ ∀ F, DR F w v
  cls : ∀ (k : Nat) (y : Str), g.cs[k]? = some y → y ≠ ("" : Str) → mg y = some (.ref (C k))
  rse : ∀ (k : Nat) (y : Str), g.cs[k]? = some y → y ≠ ("" : Str) → 1 ≤ k → PySem.W.excIn K (C k) veTl "ValueError.__new__" = true ∧ PySem.W.keepIn K (.ref (C k)) = true ∧ PySem.W.subIn K (.ref (C k)) (.type "BaseException") = some true ∧ PySem.W.typeIn K (.ref (C k)) = some (.type "type")
  exm : g.ex = true → ∀ k, 1 ≤ k → k < 6 → PySem.W.exmOne K (.ref (C k)) (.ref (C 0)) = some true
  exc : g.ex = true → ∀ k, 1 ≤ k → k < 6 → ExcC K (C k)
  kit : g.ex = true → ∀ k k', 1 ≤ k → k < 6 → k' < 6 → PySem.W.kitOne K (.ref (C k)) (.ref (C k')) = some (decide (k = k') || decide (k' = 0))
  kiv : g.ex = true → ∀ k, 1 ≤ k → k < 6 → PySem.W.kitOne K (.ref (C k)) (.type "ValueError") = some true
  fns : ∀ (f : Nat) (x : Str), g.fs[f]? = some x → ∃ fi, T[f]? = some fi ∧ Fun K x x (S f) (fa f) (fd f) ∧ FnScope fi.N (fi.N.take fi.np) (defScope (S f)) ∧ Binds K (fd f) (fi.N.take fi.np) [] ∧ mg x = some (.ref (fa f)) ∧
    fi.np ≤ fi.N.length ∧ ckSs g fi.body ⟨fi.N, defScope (S f), fun _ => true⟩ (defBody (S f)) = true
  sl : g.ini.isSome = true → Cls K (C 6) ∧ ∀ f ∈ atNs, NoAttr K (C 6) f
  ini : ∀ (f : Nat) (x : Str), g.ini = some (x, f) → ∃ fi, T[f]? = some fi ∧ Fun K "__init__" ("Slider.__init__" : Str) (S f) (fa f) (fd f) ∧ FnScope fi.N (fi.N.take fi.np) (defScope (S f)) ∧ Binds K (fd f) (fi.N.take fi.np) [] ∧ mg x = some (.ref (C 6)) ∧ Mk K (C 6) (fa f) ∧
    fi.np ≤ fi.N.length ∧ ckSs g fi.body ⟨fi.N, defScope (S f), fun _ => true⟩ (defBody (S f)) = true
  mts : ∀ (f : Nat) (m : Str), g.ms.lookup m = some f → g.ini.isSome = true ∧ ∃ fi q, T[f]? = some fi ∧ Fun K m q (S f) (fa f) (fd f) ∧ FnScope fi.N (fi.N.take fi.np) (defScope (S f)) ∧ Binds K (fd f) (fi.N.take fi.np) [] ∧ Meth K (C 6) m (fa f) ∧
    fi.np ≤ fi.N.length ∧ ckSs g fi.body ⟨fi.N, defScope (S f), fun _ => true⟩ (defBody (S f)) = true
/-- a def, a method -/
def Is (g : Gc) (f : Nat) : Prop := (∃ x, g.fs[f]? = some x) ∨ (∃ x, g.ini = some (x, f)) ∨ ∃ m, g.ms.lookup m = some f
theorem Tb.bod {g : Gc} {T : List FI} {C : Nat → Addr} {K : PySem.W.Frag} {mg : Str → Option Value} {fa : Nat → Addr} {fd : Nat → FuncData} {S : Nat → Stmt} (B : Tb g T C K mg fa fd S) {f : Nat} (h : Is g f) :
    ∃ fi x q, T[f]? = some fi ∧ Fun K x q (S f) (fa f) (fd f) ∧ FnScope fi.N (fi.N.take fi.np) (defScope (S f)) ∧ Binds K (fd f) (fi.N.take fi.np) [] ∧ fi.np ≤ fi.N.length ∧ ckSs g fi.body ⟨fi.N, defScope (S f), fun _ => true⟩ (defBody (S f)) = true := by
  rcases h with ⟨x, h⟩ | ⟨x, h⟩ | ⟨m, h⟩
  · obtain ⟨fi, h1, h2, h3, h4, h5, h6, h7⟩ := B.fns f x h
    exact ⟨fi, x, x, h1, h2, h3, h4, h6, h7⟩
  · obtain ⟨fi, h1, h2, h3, h4, h5, h6, h7, h8⟩ := B.ini f x h
    exact ⟨fi, _, _, h1, h2, h3, h4, h7, h8⟩
  · obtain ⟨_, fi, q, h1, h2, h3, h4, h5, h6, h7⟩ := B.mts f m h
    exact ⟨fi, m, q, h1, h2, h3, h4, h6, h7⟩
section
variable {g : Gc} {T : List FI} {C : Nat → Addr} {K : PySem.W.Frag} {mg : Str → Option Value} {fa : Nat → Addr} {fd : Nat → FuncData} {S : Nat → Stmt} {P : Program} {w : World} {base : Heap}
theorem SR.start {K : PySem.W.Frag} {F : Hp} {ρ : List Addr} {fi : FI} {vs : List V} {ws : List W} (h : VRs K F ρ vs ws) : SR K F ρ (startW fi ws) (L2.start fi.N vs) := by
  have hl := h.length
  refine ⟨by unfold startW L2.start; rw [List.length_append, List.length_append, List.length_map, List.length_map, List.length_replicate, List.length_replicate, hl], fun i w e => ?_⟩
  unfold startW at e
  by_cases hi : i < ws.length
  · rw [List.getElem?_append_left (by rw [List.length_map]; exact hi), List.getElem?_map] at e
    cases q : ws[i]? with
    | none =>
      rw [q] at e
      cases e
    | some w' =>
      rw [q] at e
      cases e
      obtain ⟨v, h1, h2⟩ := h.get q
      refine ⟨v, ?_, h2⟩
      unfold L2.start
      rw [List.getElem?_append_left (by rw [List.length_map, hl]; exact hi), List.getElem?_map, h1]
      rfl
  · rw [List.getElem?_append_right (by rw [List.length_map]; omega), List.getElem?_replicate] at e
    split at e <;> cases e
theorem ok_all (B : Tb g T C K mg fa fd S) : ∀ (k f : Nat), Is g f → ∀ fi, T[f]? = some fi → FnOk P w K mg base (L2.CX P w) (2 * k) (fa f) (fd f) (fi.N.take fi.np) (spI K C (run T k) f fi.np)
  | 0, f, hx, fi, hfi => by
    obtain ⟨fi', _, _, hT, _, _, _, hnp, _⟩ := B.bod hx
    rw [hfi] at hT
    cases hT
    exact ⟨fun vs H Q E h => by rw [h.1, List.length_take, Nat.min_eq_left hnp], fun A outer s H args us vs Q E _ _ _ _ ⟨_, F, ρ, M, ws, _, _, h⟩ => h.elim⟩
  | k + 1, f, hx, fi, hfi => by
    obtain ⟨fi', x, qn, hT, hF, hS, hB, hnp, hck⟩ := B.bod hx
    rw [hfi] at hT
    cases hT
    show FnOk P w K mg base (L2.CX P w) ((2 * k + 1) + 1) (fa f) (fd f) (fi.N.take fi.np) (spI K C (run T (k + 1)) f fi.np)
    refine Fun.okX hF hS (fun vs H Q E h => by rw [h.1, List.length_take, Nat.min_eq_left hnp]) fun cdv A outer s H vs Q E hr ⟨hlen, F, ρ, M, ws, R, V, q⟩ => ?_
    have hlenr : ∀ (j : Nat) (fj : FI), T[j]? = some fj → ∀ ws M o, run T k j ws M = some o → ws.length = fj.np := fun j fj tj zs M' o e => by
      cases k with
      | zero => cases e
      | succ k =>
        unfold run at e
        rw [tj] at e
        simp only at e
        split at e
        · assumption
        · cases e
    have gg : G g C (run T k) (cxOf (L2.CX P w) P w K mg base fi.N qn (defScope (S f)) (fa f) cdv A outer s H E) (fun cls d _ H' => E cls d H') := by
      refine ⟨rfl, hS.nd, ?_, takes_of rfl rfl rfl rfl, B.nog, B.cst, B.cls, fun j y h1 h2 h3 => ?_, B.exm, B.exc, B.kit, B.kiv, fun j y hj => ?_, B.sl, fun j y hj => ?_, fun j y hj => ?_⟩
      · have := hr.un
        show (A.deeper _).units + 65 < _
        omega
      · obtain ⟨a1, a2, a3, a4⟩ := B.rse j y h1 h2 h3
        exact ⟨a1, a2, raises_own a3 a4⟩
      · obtain ⟨fj, tj, Fj, Sj, Bj, mj, nj, cj⟩ := B.fns j y hj
        exact ⟨2 * k, fa j, fd j, fj.N.take fj.np, fj.np, hr.mono (by omega), mj, Fj.kp, Bj, ok_all B k j (.inl ⟨y, hj⟩) fj tj, hlenr j fj tj⟩
      · obtain ⟨fj, tj, Fj, Sj, Bj, mj, kj, nj, cj⟩ := B.ini j y hj
        exact ⟨2 * k, fa j, fd j, fj.N.take fj.np, fj.np, hr, mj, kj, Bj, ok_all B k j (.inr (.inl ⟨y, hj⟩)) fj tj, hlenr j fj tj⟩
      · obtain ⟨hi, fj, qj, tj, Fj, Sj, Bj, mj, nj, cj⟩ := B.mts j y hj
        exact ⟨hi, 2 * k, fa j, fd j, fj.N.take fj.np, fj.np, hr, mj, Bj, ok_all B k j (.inr (.inr ⟨y, hj⟩)) fj tj, hlenr j fj tj⟩
    refine ⟨_, sndSs fi.body ⟨fi.N, defScope (S f), fun _ => true⟩ (defBody (S f)) _ _ hck ⟨rfl, rfl, rfl⟩ gg ⟨passes_of rfl, rfl, rfl, rfl⟩, F, ρ, startW fi ws, M, R, SR.start V, ?_⟩
    unfold run at q
    rw [hfi] at q
    simp only at q
    split at q
    · cases e : exSs (run T k) fi.body (startW fi ws) M with
      | none =>
        rw [e] at q
        exact q.elim
      | some o =>
        rw [e] at q
        cases o with
        | nx σ1 M1 => exact fun F' H' ρ' σr' x1 R1 S1 => q F' H' ρ' .non x1 R1 DR.non
        | rt w1 M1 => exact q
        | ex c σ1 M1 => exact fun F' H' ρ' σr' x1 R1 S1 => q F' H' ρ' x1 R1
    · exact q.elim
/-- the law's promise, wherever the classes lie -/
def spL (K : PySem.W.Frag) (cf : CF) (f n : Nat) : Sp := fun vs H Q E => ∀ C, spI K C cf f n vs H Q E
theorem law_mk (B : Tb g T C K mg fa fd S) (k f : Nat) (x : Str) (hx : g.fs[f]? = some x) (fi : FI) (hT : T[f]? = some fi) (np : Nat) (ps : List Str) (hp : fi.np = np) (hps : fi.N.take fi.np = ps) : FnOk P w K mg base (L2.CX P w) (2 * k) (fa f) (fd f) ps (spL K (run T k) f np) := by
  subst hp hps
  exact (ok_all B k f (.inl ⟨x, hx⟩) fi hT).imp fun vs H Q E h => h C
theorem law_sp {k f : Nat} {H : Hp} {a : Addr} {ns : List Int} {Q : VK} {E : XK} (hS : SqL K H a (ns.map V.int)) (hr : ∃ M, run T k f [.s ns] [] = some (.val (.d (.bool true)) M)) (hQ : ∀ H', Q (.bl true) H') : spL K (run T k) f 1 [.ref a] H Q E := by
  intro C
  obtain ⟨M, e⟩ := hr
  refine ⟨rfl, H, [], [], [.s ns], ⟨.refl H, rfl, List.nodup_nil, fun _ h => absurd h (by simp), fun n _ _ h => by simp at h⟩, .cons ⟨a, rfl, hS⟩ .nil, ?_⟩
  rw [e]
  intro F' H' ρ' v _ _ r
  rw [VR.bl r]
  exact hQ H'
end
end Wl

set_option Elab.async false
set_option linter.all false
set_option maxRecDepth 100000
set_option maxHeartbeats 1000000
namespace Wl
open PySem PySem.Spec PyProof.Rows L2
def LkAny : List (Str × PyData) → Str → PyData → Prop
  | [], _, _ => False
  | (a, b) :: r, x, v => (a = x ∧ b = v) ∨ LkAny r x v
theorem lookup_cases {x : Str} {v : PyData} : ∀ l : List (Str × PyData), l.lookup x = some v → LkAny l x v
  | [], h => by cases h
  | (a, b) :: r, h => by
    rw [List.lookup_cons] at h
    cases e : (x == a) with
    | true =>
      rw [e] at h
      exact .inl ⟨(beq_iff_eq.mp e).symm, Option.some.inj h⟩
    | false =>
      rw [e] at h
      exact .inr (lookup_cases r h)
def LkN : List (Str × Nat) → Str → Nat → Prop
  | [], _, _ => False
  | (a, b) :: r, x, v => (a = x ∧ b = v) ∨ LkN r x v
theorem lookupN_cases {x : Str} {v : Nat} : ∀ l : List (Str × Nat), l.lookup x = some v → LkN l x v
  | [], h => by cases h
  | (a, b) :: r, h => by
    rw [List.lookup_cons] at h
    cases e : (x == a) with
    | true =>
      rw [e] at h
      exact .inl ⟨(beq_iff_eq.mp e).symm, Option.some.inj h⟩
    | false =>
      rw [e] at h
      exact .inr (lookupN_cases r h)
theorem law_at {g : Gc} {T : List FI} {C : Nat → Addr} {l : PySem.W.OpenLaw} {w : World} {K : PySem.W.Frag} {mg : Str → Option Value} {fA : Nat → Addr} {fd : Nat → FuncData} {S : Nat → Stmt} {k n f : Nat} {x y : Str} {fa : Addr} {h : Heap} {fi : FI}
    (B : Tb g T C K mg fA fd S) (hy : g.fs[f]? = some y) (hT : T[f]? = some fi) (hp : fi.np = 1) (hps : fi.N.take fi.np = [x]) (hmg : mg y = some (.ref fa)) (hm2 : mg y = some (.ref (fA f))) (hb : ∀ (s : Shared) (u : Value), BindsTo s (fd f) ⟨[u], []⟩ [(x, u)])
    (hr : ∀ ns : List Int, ns.length ≤ n → ∃ M, run T k f [.s ns] [] = some (.val (.d (.bool true)) M)) : LamX.LawAtS l w K (L2.CX l.prog w) (2 * k) n x mg fa h := by
  have e : fA f = fa := by
    rw [hmg] at hm2
    cases hm2
    rfl
  subst e
  exact ⟨fd f, [], spL K (run T k) f 1, fun _ z => absurd z (by simp), fun _ z => absurd z (by simp), fun _ z => absurd z (by simp), hb, fun H a ns hl _ _ hS => law_sp hS (hr ns hl) fun _ => rfl, fun base _ _ _ => law_mk B k f y hy fi hT 1 [x] hp hps⟩
theorem noexc {P : Program} {w : World} {outer : List Env} {H : Hp} {s s' : Shared} {e : Value} (z : L2.CX P w outer H s (fun _ _ _ => False) e s') : False := by
  obtain ⟨a, B, H', cls, d, _, _, _, _, _, _, _, hE⟩ := z
  exact hE
end Wl

set_option Elab.async false
set_option linter.all false
set_option maxRecDepth 100000
set_option maxHeartbeats 1000000
namespace Wl
open PySem PySem.Spec PyProof.Rows L2
/-! ### the head's facts of the errors, where they are asked for by isinstance or caught -/
def ov (a b : Option (Option Value)) : Bool := decide (a = b)
def excB (K : PySem.W.Frag) (D : Addr) : Bool := ov (PySem.W.findIn K (.ref D) "__getattribute__") (some (some (.builtin "BaseException.__getattribute__"))) && (ov (PySem.W.findIn K (.ref D) "__getattr__") (some none) && (decide (PySem.W.subIn K (.ref D) (.type "BaseException") = some true) && (PySem.W.hasDictIn K D &&
  (ov (PySem.W.findIn K (.ref D) "__class__") (some (some (.builtin "object.__class__"))) && (ov (PySem.W.specialIn K (.builtin "object.__class__") "__get__") (some (some (.builtin "getset_descriptor.__get__"))) && (decide (PySem.W.takesIn K (.builtin "object.__class__") = some true) && decide (PySem.W.mroIn K D (.type "object") = some true)))))))
theorem excB_ok {K : PySem.W.Frag} {D : Addr} (h : excB K D = true) : ExcC K D := by
  unfold excB ov at h
  simp only [Bool.and_eq_true, decide_eq_true_eq] at h
  obtain ⟨h1, h2, h3, h4, h5, h6, h7, h8⟩ := h
  exact ⟨h1, h2, h3, h4, h5, h6, h7, h8⟩
def exAll (K : PySem.W.Frag) (C : Nat → Addr) : Bool := [1, 2, 3, 4, 5].all fun k => excB K (C k) && (decide (PySem.W.exmOne K (.ref (C k)) (.ref (C 0)) = some true) && (decide (PySem.W.kitOne K (.ref (C k)) (.type "ValueError") = some true) &&
  [0, 1, 2, 3, 4, 5].all fun k' => decide (PySem.W.kitOne K (.ref (C k)) (.ref (C k')) = some (decide (k = k') || decide (k' = 0)))))
theorem exAll_ok {K : PySem.W.Frag} {C : Nat → Addr} (h : exAll K C = true) : (∀ k, 1 ≤ k → k < 6 → PySem.W.exmOne K (.ref (C k)) (.ref (C 0)) = some true) ∧ (∀ k, 1 ≤ k → k < 6 → ExcC K (C k)) ∧
    (∀ k k', 1 ≤ k → k < 6 → k' < 6 → PySem.W.kitOne K (.ref (C k)) (.ref (C k')) = some (decide (k = k') || decide (k' = 0))) ∧ ∀ k, 1 ≤ k → k < 6 → PySem.W.kitOne K (.ref (C k)) (.type "ValueError") = some true := by
  have at1 : ∀ k : Nat, 1 ≤ k → k < 6 → k ∈ [1, 2, 3, 4, 5] := fun k h1 h2 => by
    have : k = 1 ∨ k = 2 ∨ k = 3 ∨ k = 4 ∨ k = 5 := by omega
    rcases this with e | e | e | e | e <;> subst e <;> decide
  have at0 : ∀ k : Nat, k < 6 → k ∈ [0, 1, 2, 3, 4, 5] := fun k h2 => by
    have : k = 0 ∨ k = 1 ∨ k = 2 ∨ k = 3 ∨ k = 4 ∨ k = 5 := by omega
    rcases this with e | e | e | e | e | e <;> subst e <;> decide
  unfold exAll at h
  rw [List.all_eq_true] at h
  have q := fun k (h1 : 1 ≤ k) (h2 : k < 6) => by
    have z := h k (at1 k h1 h2)
    simp only [Bool.and_eq_true, decide_eq_true_eq, List.all_eq_true] at z
    exact z
  exact ⟨fun k h1 h2 => (q k h1 h2).2.1, fun k h1 h2 => excB_ok (q k h1 h2).1, fun k k' h1 h2 h3 => (q k h1 h2).2.2.2 k' (at0 k' h3), fun k h1 h2 => (q k h1 h2).2.2.1⟩
abbrev AlX : Type := He.Al × Bool
def csOf (ks : List Str) (K : PySem.W.Frag) (k : Nat) : Addr := match ks[k]? with
  | some y => He.ga K y
  | none => 0
def obsX (fa : List He.Fa) (fn : List He.FnD) (ks : List Str) (K : PySem.W.Frag) : AlX := (He.obsE fa fn K, exAll K (csOf ks K))
def obsXG (n : Nat) (fa : List He.Fa) (fn : List He.FnD) (ks : List Str) (g : Addr → Option Obj) : AlX := obsX fa fn ks (He.frG g (He.asG g n))
def SaysX (fa : List He.Fa) (fn : List He.FnD) (ks : List Str) (K : PySem.W.Frag) : Prop := He.SaysE fa fn K ∧ exAll K (csOf ks K) = true
def hookX (n : Nat) (fa : List He.Fa) (fn : List He.FnD) (ks : List Str) : PySem.W.Hook where
  α := AlX
  obs := fun s => obsXG n fa fn ks s.heap.get?
  val := fun _ => (He.valE fn, true)
  says := fun _ h => ∃ K : PySem.W.Frag, K.In h ∧ SaysX fa fn ks K
  of := fun _ _ e => ⟨_, He.frG_in, congrArg Prod.fst e, congrArg Prod.snd e⟩
  keeps := fun _ _ _ ⟨K, hK, c⟩ k => ⟨K, PySem.W.Frag.In.keeps hK k, c⟩
theorem obsXG_eq {n : Nat} {fa : List He.Fa} {fn : List He.FnD} {ks : List Str} {g : Addr → Option Obj} {s : Shared} (h : ∀ a, g a = s.heap.get? a) : obsXG n fa fn ks g = (hookX n fa fn ks).obs s := by
  have e : g = s.heap.get? := funext h
  rw [e] <;> rfl
end Wl

set_option Elab.async false
set_option linter.all false
set_option maxRecDepth 100000
set_option maxHeartbeats 1000000
namespace Wl
open PySem L2
/-! ### lists of ints -/
def LI (xs : List Int) : PyData := .list (xs.map .int)
theorem LI_def (xs : List Int) : LI xs = .list (xs.map .int) := rfl
theorem intsD_map : ∀ xs : List Int, intsD (xs.map .int) = some xs
  | [] => rfl
  | x :: xs => by
    rw [List.map_cons]
    unfold intsD
    rw [intsD_map xs]
    rfl
theorem eqvAll_ints : ∀ ns ms : List Int, PyData.eqvAll (ns.map PyData.int) (ms.map PyData.int) = decide (ns = ms)
  | [], [] => by simp [PyData.eqvAll]
  | [], _ :: _ => by simp [PyData.eqvAll]
  | _ :: _, [] => by simp [PyData.eqvAll]
  | a :: r, b :: t => by
    simp only [List.map_cons, PyData.eqvAll, PyData.eqv, eqvAll_ints r t]
    by_cases h : a = b <;> by_cases h' : r = t <;> simp [h, h']
theorem canAll_ints : ∀ ns : List Int, PyData.canLayAll0 (ns.map PyData.int) = true
  | [] => rfl
  | _ :: r => by
    rw [List.map_cons, PyData.canLayAll0, canAll_ints r]
    rfl
theorem depthAll_ints : ∀ ns : List Int, PyData.depthAll (ns.map PyData.int) = 0
  | [] => rfl
  | _ :: r => by
    rw [List.map_cons, PyData.depthAll, depthAll_ints r]
    rfl
theorem shaped_LI (xs : List Int) : SeqAt.shaped (LI xs) = true := by
  unfold SeqAt.shaped LI
  rw [PyData.canLay0, canAll_ints, PyData.depth, depthAll_ints]
  rfl
theorem shaped_int (i : Int) : SeqAt.shaped (.int i) = true := rfl
theorem eq_LI (xs ys : List Int) : cmpD .eq (LI xs) (LI ys) = some (decide (xs = ys)) := by
  show (if SeqAt.shaped (LI xs) && SeqAt.shaped (LI ys) then some (PyData.eqv (LI xs) (LI ys)) else none) = _
  rw [shaped_LI, shaped_LI]
  show some (PyData.eqv (LI xs) (LI ys)) = _
  unfold LI
  rw [PyData.eqv, eqvAll_ints]
theorem ne_LI (xs ys : List Int) : cmpD .ne (LI xs) (LI ys) = some (!decide (xs = ys)) := by
  show (if SeqAt.shaped (LI xs) && SeqAt.shaped (LI ys) then some (!PyData.eqv (LI xs) (LI ys)) else none) = _
  rw [shaped_LI, shaped_LI]
  show some (!PyData.eqv (LI xs) (LI ys)) = _
  unfold LI
  rw [PyData.eqv, eqvAll_ints]
theorem eq_int (a b : Int) : cmpD .eq (.int a) (.int b) = some (decide (a = b)) := by
  show some (PyData.eqv (.int a) (.int b)) = _
  rw [PyData.eqv]
  rfl
theorem ne_int (a b : Int) : cmpD .ne (.int a) (.int b) = some (!decide (a = b)) := by
  show some (!PyData.eqv (.int a) (.int b)) = _
  rw [PyData.eqv]
  rfl
theorem any_ints (xs : List Int) (v : Int) : ((xs.map PyData.int).any fun y => PyData.eqv y (.int v)) = decide (v ∈ xs) := by
  rw [List.any_map, Bool.eq_iff_iff, List.any_eq_true, decide_eq_true_eq]
  constructor
  · rintro ⟨y, hy, e⟩
    have e' : PyData.eqv (.int y) (.int v) = true := e
    rw [PyData.eqv] at e'
    have e2 : y = v := beq_iff_eq.mp e'
    exact e2 ▸ hy
  · intro h
    refine ⟨v, h, ?_⟩
    show PyData.eqv (.int v) (.int v) = true
    rw [PyData.eqv]
    exact beq_self_eq_true v
theorem inn_LI (v : Int) (xs : List Int) : cmpD .inn (.int v) (LI xs) = some (decide (v ∈ xs)) := by
  show (if SeqAt.shaped (.int v) && SeqAt.shaped (LI xs) then some ((xs.map PyData.int).any fun y => PyData.eqv y (.int v)) else none) = _
  rw [shaped_LI, shaped_int, any_ints]
  rfl
theorem nin_LI (v : Int) (xs : List Int) : cmpD .nin (.int v) (LI xs) = some (!decide (v ∈ xs)) := by
  show (if SeqAt.shaped (.int v) && SeqAt.shaped (LI xs) then some (!(xs.map PyData.int).any fun y => PyData.eqv y (.int v)) else none) = _
  rw [shaped_LI, shaped_int, any_ints]
  rfl
theorem len_LI (xs : List Int) : bltD .len [LI xs] = some (.int xs.length) := by
  show some (PyData.int (xs.map PyData.int).length) = _
  rw [List.length_map]
theorem len_list (xs : List PyData) : bltD .len [.list xs] = some (.int xs.length) := rfl
def minI (xs : List Int) : Int := match xs with
  | [] => 0
  | a :: r => minL a r
def maxI (xs : List Int) : Int := match xs with
  | [] => 0
  | a :: r => maxL a r
theorem minL_le : ∀ (a : Int) (r : List Int), minL a r ≤ a ∧ ∀ v ∈ r, minL a r ≤ v
  | a, [] => ⟨Int.le_refl a, fun v h => absurd h (by simp)⟩
  | a, b :: r => by
    unfold minL
    obtain ⟨h1, h2⟩ := minL_le (if b < a then b else a) r
    have hb : (if b < a then b else a) ≤ a ∧ (if b < a then b else a) ≤ b := by split <;> omega
    refine ⟨by omega, fun v hv => ?_⟩
    rcases List.mem_cons.mp hv with e | e
    · subst e
      exact Int.le_trans h1 hb.2
    · exact h2 v e
theorem minL_mem : ∀ (a : Int) (r : List Int), minL a r ∈ a :: r
  | a, [] => by
    unfold minL
    simp
  | a, b :: r => by
    unfold minL
    have h := minL_mem (if b < a then b else a) r
    rcases List.mem_cons.mp h with e | e
    · rw [e]
      split <;> simp
    · exact List.mem_cons_of_mem _ (List.mem_cons_of_mem _ e)
theorem maxL_ge : ∀ (a : Int) (r : List Int), a ≤ maxL a r ∧ ∀ v ∈ r, v ≤ maxL a r
  | a, [] => ⟨Int.le_refl a, fun v h => absurd h (by simp)⟩
  | a, b :: r => by
    unfold maxL
    obtain ⟨h1, h2⟩ := maxL_ge (if b > a then b else a) r
    have hb : a ≤ (if b > a then b else a) ∧ b ≤ (if b > a then b else a) := by split <;> omega
    refine ⟨by omega, fun v hv => ?_⟩
    rcases List.mem_cons.mp hv with e | e
    · subst e
      exact Int.le_trans hb.2 h1
    · exact h2 v e
theorem maxL_mem : ∀ (a : Int) (r : List Int), maxL a r ∈ a :: r
  | a, [] => by
    unfold maxL
    simp
  | a, b :: r => by
    unfold maxL
    have h := maxL_mem (if b > a then b else a) r
    rcases List.mem_cons.mp h with e | e
    · rw [e]
      split <;> simp
    · exact List.mem_cons_of_mem _ (List.mem_cons_of_mem _ e)
theorem minI_mem {xs : List Int} (h : xs ≠ []) : minI xs ∈ xs := by
  cases xs with
  | nil => exact absurd rfl h
  | cons a r => exact minL_mem a r
theorem minI_le {xs : List Int} {v : Int} (h : v ∈ xs) : minI xs ≤ v := by
  cases xs with
  | nil => exact absurd h (by simp)
  | cons a r =>
    rcases List.mem_cons.mp h with e | e
    · subst e
      exact (minL_le _ r).1
    · exact (minL_le a r).2 v e
theorem maxI_mem {xs : List Int} (h : xs ≠ []) : maxI xs ∈ xs := by
  cases xs with
  | nil => exact absurd rfl h
  | cons a r => exact maxL_mem a r
theorem maxI_ge {xs : List Int} {v : Int} (h : v ∈ xs) : v ≤ maxI xs := by
  cases xs with
  | nil => exact absurd h (by simp)
  | cons a r =>
    rcases List.mem_cons.mp h with e | e
    · subst e
      exact (maxL_ge _ r).1
    · exact (maxL_ge a r).2 v e
theorem le_minI {xs : List Int} {c : Int} (h : xs ≠ []) : c ≤ minI xs ↔ ∀ v ∈ xs, c ≤ v :=
  ⟨fun q v hv => Int.le_trans q (minI_le hv), fun q => q _ (minI_mem h)⟩
theorem le_maxI {xs : List Int} {c : Int} (h : xs ≠ []) : c ≤ maxI xs ↔ ∃ v ∈ xs, c ≤ v :=
  ⟨fun q => ⟨_, maxI_mem h, q⟩, fun ⟨v, hv, q⟩ => Int.le_trans q (maxI_ge hv)⟩
/-- the first place of the least value -/
def placeI (xs : List Int) : Nat := (xs.findIdx? fun z => z == minI xs).getD 0
theorem placeI_at {xs : List Int} (h : xs ≠ []) : (xs.findIdx? fun z => z == minI xs) = some (placeI xs) ∧ xs[placeI xs]? = some (minI xs) ∧ ∀ j : Nat, j < placeI xs → xs[j]? ≠ some (minI xs) := by
  cases e : xs.findIdx? fun z => z == minI xs with
  | none =>
    have q := List.findIdx?_eq_none_iff.mp e _ (minI_mem h)
    exact absurd q (by simp)
  | some j =>
    have ej : placeI xs = j := by
      unfold placeI
      rw [e]
      rfl
    obtain ⟨h1, h2, h3⟩ := List.findIdx?_eq_some_iff_getElem.mp e
    have h2' : xs[j] = minI xs := beq_iff_eq.mp h2
    refine ⟨by rw [ej], by rw [ej, List.getElem?_eq_getElem h1, h2'], fun i hi z => ?_⟩
    rw [ej] at hi
    have q := h3 i hi
    obtain ⟨l1, l2⟩ := List.getElem?_eq_some_iff.mp z
    rw [l2] at q
    exact absurd (beq_self_eq_true (minI xs)) (by simpa using q)
theorem index_min {xs : List Int} (h : xs ≠ []) : mthD .index (LI xs) (.int (minI xs)) = some (.int (placeI xs)) := by
  have e : mthD .index (LI xs) (.int (minI xs)) = (xs.findIdx? fun z => z == minI xs).map fun j => PyData.int j := by
    show (if SeqAt.shaped (.int (minI xs)) && SeqAt.shaped (LI xs) then (match (xs.map PyData.int).findIdx? fun z => PyData.eqv z (.int (minI xs)) with
      | some j => some (PyData.int j)
      | none => none) else none) = _
    rw [shaped_LI, shaped_int]
    have e2 : ((xs.map PyData.int).findIdx? fun z => PyData.eqv z (.int (minI xs))) = xs.findIdx? fun z => z == minI xs := by
      rw [List.findIdx?_map]
      congr 1
    rw [e2]
    cases xs.findIdx? fun z => z == minI xs <;> rfl
  rw [e, (placeI_at h).1]
  rfl
theorem min_LI {xs : List Int} (h : xs ≠ []) : bltD .min1 [LI xs] = some (.int (minI xs)) := by
  show minD1 (xs.map .int) = _
  unfold minD1
  rw [intsD_map]
  cases xs with
  | nil => exact absurd rfl h
  | cons a r => rfl
theorem max_LI {xs : List Int} (h : xs ≠ []) : bltD .max1 [LI xs] = some (.int (maxI xs)) := by
  show (match intsD (xs.map .int) with
    | some (a :: r) => some (PyData.int (maxL a r))
    | _ => none) = _
  rw [intsD_map]
  cases xs with
  | nil => exact absurd rfl h
  | cons a r => rfl
theorem sum_LI (xs : List Int) : bltD .sum [LI xs] = some (.int xs.sum) := by
  show ((intsD (xs.map .int)).map fun ns => PyData.int ns.sum) = _
  rw [intsD_map]
  rfl
theorem boolsD_map : ∀ xs : List Bool, boolsD (xs.map .bool) = some xs
  | [] => rfl
  | x :: xs => by
    rw [List.map_cons]
    unfold boolsD
    rw [boolsD_map xs]
    rfl
theorem all_LB (xs : List Bool) : bltD .all [.list (xs.map .bool)] = some (.bool (xs.all id)) := by
  show ((boolsD (xs.map .bool)).map fun ns => PyData.bool (ns.all id)) = _
  rw [boolsD_map]
  rfl
theorem any_LB (xs : List Bool) : bltD .any [.list (xs.map .bool)] = some (.bool (xs.any id)) := by
  show ((boolsD (xs.map .bool)).map fun ns => PyData.bool (ns.any id)) = _
  rw [boolsD_map]
  rfl
/-- a slice -/
def cutI (xs : List Int) (lo hi : Option Int) : List Int := (xs.drop (HT.sIx xs.length 0 lo)).take (HT.sIx xs.length xs.length hi - HT.sIx xs.length 0 lo)
theorem sli_LI (xs : List Int) (lo hi : Option Int) : sliD (LI xs) lo hi = some (LI (cutI xs lo hi)) := by
  show some (PyData.list (cutD (xs.map .int) lo hi)) = _
  unfold cutD cutI LI
  rw [List.length_map, List.map_take, List.map_drop]
/-- the slice a : a + w of a list -/
def win (xs : List Int) (a w : Nat) : List Int := (xs.drop a).take w
theorem sIx_nat' {n d : Nat} {v : Int} (h : 0 ≤ v) : HT.sIx n d (some v) = min v.toNat n := by
  show (if v < 0 then (v + (n : Int)).toNat else min v.toNat n) = _
  rw [if_neg (by omega)]
theorem cutI_win {xs : List Int} {a b : Int} (ha : 0 ≤ a) (hb : a ≤ b) (hl : b ≤ xs.length) : cutI xs (some a) (some b) = win xs a.toNat (b - a).toNat := by
  unfold cutI win
  rw [sIx_nat' ha, sIx_nat' (by omega)]
  have e1 : min a.toNat xs.length = a.toNat := by omega
  have e2 : min b.toNat xs.length - min a.toNat xs.length = (b - a).toNat := by omega
  rw [e2, e1]
theorem atI_map (xs : List Int) (i : Int) : atI (xs.map PyData.int) i = (atI xs i).map .int := by
  unfold atI
  rw [List.length_map]
  cases ixN xs.length i with
  | none => rfl
  | some j =>
    show (xs.map PyData.int)[j]? = (xs[j]?).map .int
    rw [List.getElem?_map]
theorem sub_LI (xs : List Int) (i : Int) : subD (LI xs) i = (atI xs i).map .int := atI_map xs i
theorem atI_nat {α : Type} {xs : List α} {i : Int} (h : 0 ≤ i) : atI xs i = xs[i.toNat]? := by
  unfold atI ixN
  rw [if_pos h]
  by_cases hl : i < xs.length
  · rw [if_pos hl]
    rfl
  · rw [if_neg hl]
    rw [List.getElem?_eq_none (by omega)]
    rfl
theorem atI_last {α : Type} {xs : List α} (h : xs ≠ []) : atI xs (-1) = xs.getLast? := by
  unfold atI ixN
  have hl : 0 < xs.length := List.length_pos_iff.mpr h
  rw [if_neg (by omega), if_pos (by omega)]
  show xs[(-1 + (xs.length : Int)).toNat]? = _
  rw [List.getLast?_eq_getElem?]
  congr 1
  omega
theorem findIdx_ints (xs : List Int) (v : Int) : ((xs.map PyData.int).findIdx? fun z => PyData.eqv z (.int v)) = xs.findIdx? fun z => z == v := by
  rw [List.findIdx?_map]
  congr 1
theorem index_LI {xs : List Int} {v : Int} : mthD .index (LI xs) (.int v) = (xs.findIdx? fun z => z == v).map fun j => PyData.int j := by
  show (if SeqAt.shaped (.int v) && SeqAt.shaped (LI xs) then (match (xs.map PyData.int).findIdx? fun z => PyData.eqv z (.int v) with
    | some j => some (PyData.int j)
    | none => none) else none) = _
  rw [shaped_LI, shaped_int, findIdx_ints]
  cases xs.findIdx? fun z => z == v <;> rfl
theorem seq_LI (xs : List Int) : seqD 0 (LI xs) = some (xs.map .int) := rfl
/-- a range -/
theorem rngL_eq : ∀ (n : Nat) (i : Int), rngL i n = (List.range n).map fun (k : Nat) => PyData.int (i + k)
  | 0, _ => rfl
  | n + 1, i => by
    show PyData.int i :: rngL (i + 1) n = _
    rw [rngL_eq n (i + 1), List.range_succ_eq_map, List.map_cons, List.map_map]
    congr 1
    · simp
    · refine List.map_congr_left fun k _ => ?_
      show PyData.int (i + 1 + k) = PyData.int (i + (k + 1 : Nat))
      congr 1
      omega
theorem smallI_of {i : Int} (h : -100000 ≤ i ∧ i ≤ 100000) : smallI i = true := by
  unfold smallI
  rw [Bool.and_eq_true, decide_eq_true_eq, decide_eq_true_eq]
  exact h
def upto (n : Nat) : List Int := (List.range n).map fun (k : Nat) => (k : Int)
theorem rng1 {j : Int} (h : -100000 ≤ j ∧ j ≤ 100000) : rngD [.int j] = some ((upto j.toNat).map .int) := by
  show (if smallI j then some (rngL 0 j.toNat) else none) = _
  rw [smallI_of h, rngL_eq]
  unfold upto
  rw [List.map_map]
  show some _ = some _
  congr 1
  refine List.map_congr_left fun k _ => ?_
  show PyData.int (0 + k) = PyData.int k
  rw [Int.zero_add]
def span (i j : Int) : List Int := (List.range (j - i).toNat).map fun (k : Nat) => i + (k : Int)
theorem rng2 {i j : Int} (h : -100000 ≤ i ∧ i ≤ 100000) (h2 : -100000 ≤ j ∧ j ≤ 100000) : rngD [.int i, .int j] = some ((span i j).map .int) := by
  show (if smallI i && smallI j then some (rngL i (j - i).toNat) else none) = _
  rw [smallI_of h, smallI_of h2, rngL_eq]
  unfold span
  rw [List.map_map]
  rfl
theorem zip_ints : ∀ xs ys : List Int, zipD (xs.map .int) (ys.map .int) = (xs.zip ys).map fun p => PyData.tuple [.int p.1, .int p.2]
  | [], _ => by
    cases ‹List Int› <;> rfl
  | _ :: _, [] => rfl
  | x :: xs, y :: ys => by
    show PyData.tuple [.int x, .int y] :: zipD (xs.map .int) (ys.map .int) = _
    rw [zip_ints xs ys]
    rfl
theorem lt_int (a b : Int) : cmpD .lt (.int a) (.int b) = some (decide (a < b)) := rfl
theorem le_int (a b : Int) : cmpD .le (.int a) (.int b) = some (decide (a ≤ b)) := rfl
theorem gt_int (a b : Int) : cmpD .gt (.int a) (.int b) = some (decide (b < a)) := rfl
theorem ge_int (a b : Int) : cmpD .ge (.int a) (.int b) = some (decide (b ≤ a)) := rfl
theorem is_bool (a b : Bool) : cmpD .is (.bool a) (.bool b) = some (decide (a = b)) := rfl
theorem isn_bool (a b : Bool) : cmpD .isn (.bool a) (.bool b) = some (!decide (a = b)) := rfl
theorem add_int (a b : Int) : binD .add (.int a) (.int b) = some (.int (a + b)) := rfl
theorem sub_int (a b : Int) : binD .sub (.int a) (.int b) = some (.int (a - b)) := rfl
theorem mod_int (a b : Int) : binD .mod (.int a) (.int b) = if b ≠ 0 then some (.int (a.fmod b)) else none := rfl
theorem fdv_int (a b : Int) : binD .fdv (.int a) (.int b) = if b ≠ 0 ∧ b.natAbs < 1073741824 then some (.int (a.fdiv b)) else none := rfl
theorem mul_int (a b : Int) : binD .mul (.int a) (.int b) = if (-p64 < a ∧ a < p64) ∨ (-p64 < b ∧ b < p64) then some (.int (a * b)) else none := rfl
theorem pow_int (a b : Int) : binD .pow (.int a) (.int b) = if 0 ≤ b ∧ b ≤ 1000000 ∧ a.natAbs < 18446744073709551616 then some (.int (a ^ b.toNat)) else none := rfl
theorem max2_int (a b : Int) : bltD .max2 [.int a, .int b] = some (.int (if b > a then b else a)) := rfl
theorem min2_int (a b : Int) : bltD .min2 [.int a, .int b] = some (.int (if b < a then b else a)) := rfl
theorem cmpW_d (op : CO) (x y : PyData) (M : MH) : cmpW op (.d x) (.d y) M = cmpD op x y := by
  unfold cmpW
  split
  · rename_i h1 h2
    cases h1
  · rename_i h1 h2
    cases h1
  · rfl
theorem newL_f (xs : List PyData) (M : MH) : newL false xs M = .val (.d (.list xs)) M := rfl
theorem onlyL_LI (xs : List Int) : onlyL (.d (LI xs)) = some (LI xs) := rfl
theorem mthO_index : mthO .index = onlyL := rfl
theorem cap_of {n : Nat} (h : n ≤ 1000) : n ≤ cap := Nat.le_trans h (by decide)
/-! ### turns -/
theorem lcF_map {α : Type} {step : PyData → MH → Option CR} {h : α → PyData} {f : α → PyData} {M : MH} : ∀ {xs : List α}, (∀ x ∈ xs, step (h x) M = some (.keep (f x) M)) → lcF step (xs.map h) M = some (xs.map f, M)
  | [], _ => rfl
  | x :: xs, q => by
    show (match step (h x) M with
      | some (.skip M1) => lcF step (xs.map h) M1
      | some (.keep y M1) => match lcF step (xs.map h) M1 with
        | some (ys, M2) => some (y :: ys, M2)
        | none => none
      | none => none) = _
    rw [q x (by simp)]
    show (match lcF step (xs.map h) M with
        | some (ys, M2) => some (f x :: ys, M2)
        | none => none) = _
    rw [lcF_map fun y hy => q y (List.mem_cons_of_mem _ hy)]
    rfl
theorem lcF_filter {α : Type} {step : PyData → MH → Option CR} {h : α → PyData} {f : α → PyData} {p : α → Bool} {M : MH} : ∀ {xs : List α}, (∀ x ∈ xs, step (h x) M = some (if p x then .keep (f x) M else .skip M)) → lcF step (xs.map h) M = some ((xs.filter p).map f, M)
  | [], _ => rfl
  | x :: xs, q => by
    show (match step (h x) M with
      | some (.skip M1) => lcF step (xs.map h) M1
      | some (.keep y M1) => match lcF step (xs.map h) M1 with
        | some (ys, M2) => some (y :: ys, M2)
        | none => none
      | none => none) = _
    rw [q x (by simp)]
    have ih := lcF_filter (step := step) (h := h) (f := f) (p := p) (M := M) (xs := xs) fun y hy => q y (List.mem_cons_of_mem _ hy)
    cases hp : p x with
    | true =>
      show (match lcF step (xs.map h) M with
        | some (ys, M2) => some (f x :: ys, M2)
        | none => none) = _
      rw [ih, List.filter_cons_of_pos hp]
      rfl
    | false =>
      show lcF step (xs.map h) M = _
      rw [ih, List.filter_cons_of_neg (by simp [hp])]
/-- a loop that goes on: the states by the items that are behind -/
theorem forF_fold {α : Type} {step : PyData → Sl → MH → Option SO} {h : α → PyData} (st : List α → Sl × MH) : ∀ {xs : List α} (ys : List α), (∀ zs x r, ys ++ xs = zs ++ x :: r → step (h x) (st zs).1 (st zs).2 = some (.nx (st (zs ++ [x])).1 (st (zs ++ [x])).2)) → forF step (xs.map h) (st ys).1 (st ys).2 = some (.nx (st (ys ++ xs)).1 (st (ys ++ xs)).2)
  | [], ys, _ => by
    rw [List.append_nil]
    rfl
  | x :: xs, ys, q => by
    show (match step (h x) (st ys).1 (st ys).2 with
      | some (.nx σ1 M1) => forF step (xs.map h) σ1 M1
      | o => o) = _
    rw [q ys x xs rfl]
    show forF step (xs.map h) (st (ys ++ [x])).1 (st (ys ++ [x])).2 = _
    rw [forF_fold st (ys ++ [x]) fun zs y r e => q zs y r (by rw [← e, List.append_assoc]; rfl), List.append_assoc]
    rfl
/-- a loop with an invariant -/
theorem forF_inv {step : PyData → Sl → MH → Option SO} (I : Sl → MH → Prop) : ∀ {xs : List PyData} {σ : Sl} {M : MH}, I σ M → (∀ x ∈ xs, ∀ σ M, I σ M → ∃ σ' M', step x σ M = some (.nx σ' M') ∧ I σ' M') → ∃ σ' M', forF step xs σ M = some (.nx σ' M') ∧ I σ' M'
  | [], σ, M, h, _ => ⟨σ, M, rfl, h⟩
  | x :: xs, σ, M, h, q => by
    obtain ⟨σ1, M1, e1, h1⟩ := q x (by simp) σ M h
    obtain ⟨σ2, M2, e2, h2⟩ := forF_inv I (xs := xs) h1 fun y hy => q y (List.mem_cons_of_mem _ hy)
    refine ⟨σ2, M2, ?_, h2⟩
    show (match step x σ M with
      | some (.nx σ1 M1) => forF step xs σ1 M1
      | o => o) = _
    rw [e1]
    exact e2
/-! ### the draws -/
/-- the store: the numbers, the counter, what is behind -/
def Dw (ns : List Int) (c : Int) (R : MH) : MH := .lst (ns.map fun i => .d (.int i)) :: .lst [.m 0, .d (.int c)] :: R
theorem Dw_eq (ns : List Int) (c : Int) (R : MH) : Dw ns c R = .lst (ns.map fun i => .d (.int i)) :: .lst [.m 0, .d (.int c)] :: R := rfl
theorem dats_ints : ∀ ns : List Int, dats (ns.map fun i => .d (.int i)) = some (ns.map .int)
  | [] => rfl
  | n :: ns => by
    rw [List.map_cons]
    unfold dats
    rw [dats_ints ns]
    rfl
theorem atI_mapW (xs : List Int) (i : Int) : atI (xs.map fun i => W.d (.int i)) i = (atI xs i).map fun i => W.d (.int i) := by
  unfold atI
  rw [List.length_map]
  cases ixN xs.length i with
  | none => rfl
  | some j =>
    show (xs.map fun i => W.d (.int i))[j]? = (xs[j]?).map fun i => W.d (.int i)
    rw [List.getElem?_map]
theorem refs_ints (n : Nat) (ns : List Int) : (ns.map fun i => W.d (.int i)).all (refOk n) = true := by
  rw [List.all_eq_true]
  intro w hw
  obtain ⟨i, _, rfl⟩ := List.mem_map.mp hw
  rfl
theorem Dw_ok {ns : List Int} {c : Int} {R : MH} {n : Nat} (hn : 0 < n) (h : R.all (objOk n) = true) : (Dw ns c R).all (objOk n) = true := by
  unfold Dw
  rw [List.all_cons, List.all_cons, h]
  show ((ns.map fun i => W.d (.int i)).all (refOk n) && ((decide (0 < n) && (refOk n (.d (.int c)) && true)) && true)) = true
  rw [refs_ints, decide_eq_true hn]
  rfl
/-- a call that draws: what it says of the store holds of the caller's -/
theorem call_draw {cf : CF} {f : Nat} {ws : List W} {ns ns' : List Int} {c c' : Int} {R R' : MH} {x : PyData} (h : cf f ws (Dw ns c R) = some (.val (.d x) (Dw ns' c' (R ++ R')))) (hR : R.all (objOk (R.length + 2)) = true) : callW cf 1 f ws (Dw ns c R) = some (.val (.d x) (Dw ns' c' R)) := by
  unfold callW
  simp only
  rw [h]
  simp only
  have e : (Dw ns c R).length = R.length + 2 := rfl
  have e2 : (Dw ns' c' (R ++ R')).take (Dw ns c R).length = Dw ns' c' R := by
    show (Dw ns' c' R ++ R').take (Dw ns c R).length = Dw ns' c' R
    exact List.take_left' rfl
  rw [e2, e]
  rw [Dw_ok (by omega) hR]
  rfl
theorem Dw_get (ns : List Int) (c : Int) (R : MH) (n : Nat) : (Dw ns c R)[n + 2]? = R[n]? := rfl
theorem Dw_set (ns : List Int) (c : Int) (R : MH) (n : Nat) (o : MO) : (Dw ns c R).set (n + 2) o = Dw ns c (R.set n o) := rfl
theorem Dw_app (ns : List Int) (c : Int) (R X : MH) : Dw ns c R ++ X = Dw ns c (R ++ X) := rfl
theorem Dw_len (ns : List Int) (c : Int) (R : MH) : (Dw ns c R).length = R.length + 2 := rfl
theorem call0 {cf : CF} {f : Nat} {ws : List W} {M M' : MH} {x : PyData} (h : cf f ws [] = some (.val (.d x) M')) (hd : (dats ws).isSome = true) : callW cf 0 f ws M = some (.val (.d x) M) := by
  unfold callW
  simp only
  cases e : dats ws with
  | none =>
    rw [e] at hd
    cases hd
  | some ds =>
    simp only [h]
theorem call0x {cf : CF} {f : Nat} {ws : List W} {M M' : MH} {c : Nat} (h : cf f ws [] = some (.exc c M')) (hd : (dats ws).isSome = true) : callW cf 0 f ws M = some (.exc c M) := by
  unfold callW
  simp only
  cases e : dats ws with
  | none =>
    rw [e] at hd
    cases hd
  | some ds =>
    simp only [h]
/-- a loop with an invariant that counts -/
theorem forF_cnt {step : PyData → Sl → MH → Option SO} (I : Nat → Sl → MH → Prop) {N : Nat} : ∀ {xs : List PyData} {n : Nat} {σ : Sl} {M : MH}, n + xs.length = N → I n σ M → (∀ x ∈ xs, ∀ n σ M, n < N → I n σ M → ∃ σ' M', step x σ M = some (.nx σ' M') ∧ I (n + 1) σ' M') → ∃ σ' M', forF step xs σ M = some (.nx σ' M') ∧ I N σ' M'
  | [], n, σ, M, e, h, _ => ⟨σ, M, rfl, by rw [← e]; exact h⟩
  | x :: xs, n, σ, M, e, h, q => by
    rw [List.length_cons] at e
    obtain ⟨σ1, M1, e1, h1⟩ := q x (by simp) n σ M (by omega) h
    obtain ⟨σ2, M2, e2, h2⟩ := forF_cnt I (xs := xs) (by omega) h1 fun y hy => q y (List.mem_cons_of_mem _ hy)
    refine ⟨σ2, M2, ?_, h2⟩
    show (match step x σ M with
      | some (.nx σ1 M1) => forF step xs σ1 M1
      | o => o) = _
    rw [e1]
    exact e2
theorem forF_from {step : PyData → Sl → MH → Option SO} (I : Nat → Sl → MH → Prop) {xs : List PyData} (q : ∀ i x σ M, xs[i]? = some x → I i σ M → ∃ σ' M', step x σ M = some (.nx σ' M') ∧ I (i + 1) σ' M') : ∀ {ys : List PyData} {n : Nat} {σ : Sl} {M : MH}, xs.drop n = ys → I n σ M → n + ys.length = xs.length → ∃ σ' M', forF step ys σ M = some (.nx σ' M') ∧ I xs.length σ' M'
  | [], n, σ, M, e, h, hl => ⟨σ, M, rfl, by
    rw [← hl]
    exact h⟩
  | y :: ys, n, σ, M, e, h, hl => by
    rw [List.length_cons] at hl
    have hx : xs[n]? = some y := by
      have := congrArg (fun l : List PyData => l[0]?) e
      rw [List.getElem?_drop] at this
      simpa using this
    have e2 : xs.drop (n + 1) = ys := by
      have := congrArg List.tail e
      rw [List.tail_drop] at this
      simpa using this
    obtain ⟨σ1, M1, e1, h1⟩ := q n y σ M hx h
    obtain ⟨σ2, M2, e3, h2⟩ := forF_from I q e2 h1 (by omega)
    refine ⟨σ2, M2, ?_, h2⟩
    show (match step y σ M with
      | some (.nx σ1 M1) => forF step ys σ1 M1
      | o => o) = _
    rw [e1]
    exact e3
/-- a loop with an invariant by place -/
theorem forF_at {step : PyData → Sl → MH → Option SO} (I : Nat → Sl → MH → Prop) {xs : List PyData} {σ : Sl} {M : MH} (h : I 0 σ M) (q : ∀ i x σ M, xs[i]? = some x → I i σ M → ∃ σ' M', step x σ M = some (.nx σ' M') ∧ I (i + 1) σ' M') : ∃ σ' M', forF step xs σ M = some (.nx σ' M') ∧ I xs.length σ' M' :=
  forF_from I q (by rw [List.drop_zero]) h (by rw [Nat.zero_add])
theorem upto_len (n : Nat) : (upto n).length = n := by
  unfold upto
  rw [List.length_map, List.length_range]
theorem upto_mem {n : Nat} {i : Int} : i ∈ upto n ↔ 0 ≤ i ∧ i < n := by
  unfold upto
  rw [List.mem_map]
  constructor
  · rintro ⟨k, hk, rfl⟩
    have := List.mem_range.mp hk
    omega
  · intro h
    exact ⟨i.toNat, List.mem_range.mpr (by omega), by omega⟩
theorem upto_get {n i : Nat} {x : PyData} (h : ((upto n).map PyData.int)[i]? = some x) : x = .int i ∧ i < n := by
  unfold upto at h
  rw [List.map_map, List.getElem?_map] at h
  cases e : (List.range n)[i]? with
  | none =>
    rw [e] at h
    cases h
  | some k =>
    rw [e] at h
    obtain ⟨h1, h2⟩ := List.getElem?_eq_some_iff.mp e
    rw [List.length_range] at h1
    rw [List.getElem_range] at h2
    subst h2
    cases h
    exact ⟨rfl, h1⟩
theorem upto_succ (n : Nat) : upto (n + 1) = upto n ++ [(n : Int)] := by
  unfold upto
  rw [List.range_succ, List.map_append]
  rfl
theorem view_LI (M : MH) (xs : List Int) : view M (.d (LI xs)) = some (LI xs) := rfl
theorem dats_d : ∀ xs : List PyData, dats (xs.map .d) = some xs
  | [] => rfl
  | n :: ns => by
    rw [List.map_cons]
    unfold dats
    rw [dats_d ns]
    rfl
theorem ne_bool (a b : Bool) : cmpD .ne (.bool a) (.bool b) = some (!(a == b)) := by
  show some (!PyData.eqv (.bool a) (.bool b)) = _
  rw [PyData.eqv]
theorem eq_bool (a b : Bool) : cmpD .eq (.bool a) (.bool b) = some (a == b) := by
  show some (PyData.eqv (.bool a) (.bool b)) = _
  rw [PyData.eqv]
theorem sorted_LI (xs : List Int) : bltD .sorted [LI xs] = some (LI (sortI xs)) := by
  show sortedD (xs.map .int) = _
  unfold sortedD
  rw [intsD_map]
  rfl
theorem sortI_of {xs : List Int} (h : xs.Pairwise (· ≤ ·)) : sortI xs = xs := by
  induction xs with
  | nil => rfl
  | cons x r ih =>
    rw [List.pairwise_cons] at h
    unfold sortI
    rw [ih h.2]
    cases r with
    | nil => rfl
    | cons y t =>
      unfold insI
      rw [if_pos (h.1 y (by simp))]
theorem cat_LI {xs ys : List Int} (h : xs.length + ys.length ≤ 1000) : binD .add (LI xs) (LI ys) = some (LI (xs ++ ys)) := by
  show (if (xs.map PyData.int).length + (ys.map PyData.int).length ≤ cap then some (PyData.list (xs.map .int ++ ys.map .int)) else none) = _
  rw [List.length_map, List.length_map, if_pos (cap_of h), ← List.map_append]
  rfl
theorem rep_LI {k : Int} {v : Int} (h : 0 ≤ k ∧ k ≤ 1000) : binD .mul (LI [v]) (.int k) = some (LI (List.replicate k.toNat v)) := by
  show (if 0 ≤ k ∧ k ≤ 100000 ∧ 1 * k.toNat ≤ cap then some (PyData.list (List.replicate k.toNat [PyData.int v]).flatten) else none) = _
  rw [if_pos ⟨h.1, by omega, by rw [Nat.one_mul]; exact cap_of (by omega)⟩]
  congr 1
  unfold LI
  rw [List.map_replicate]
  congr 1
  generalize k.toNat = n
  induction n with
  | zero => rfl
  | succ n ih =>
    rw [List.replicate_succ, List.flatten_cons, ih, List.replicate_succ]
    rfl
/-! ### lists of pairs of ints -/
def VL (ps : List (Int × Int)) : PyData := .list (ps.map fun p => .tuple [.int p.1, .int p.2])
theorem seq_VL (ps : List (Int × Int)) : seqD 0 (VL ps) = some (ps.map fun p => .tuple [.int p.1, .int p.2]) := rfl
theorem eqvAll_pairs : ∀ ps qs : List (Int × Int), PyData.eqvAll (ps.map fun p => .tuple [.int p.1, .int p.2]) (qs.map fun p => .tuple [.int p.1, .int p.2]) = decide (ps = qs)
  | [], [] => by simp [PyData.eqvAll]
  | [], _ :: _ => by simp [PyData.eqvAll]
  | _ :: _, [] => by simp [PyData.eqvAll]
  | a :: r, b :: t => by
    obtain ⟨a1, a2⟩ := a
    obtain ⟨b1, b2⟩ := b
    simp only [List.map_cons, PyData.eqvAll, PyData.eqv, eqvAll_pairs r t]
    by_cases h : a1 = b1 <;> by_cases h2 : a2 = b2 <;> by_cases h' : r = t <;> simp [h, h', h2]
theorem canAll_pairs : ∀ ps : List (Int × Int), PyData.canLayAll0 (ps.map fun p => .tuple [.int p.1, .int p.2]) = true
  | [] => rfl
  | _ :: r => by
    rw [List.map_cons, PyData.canLayAll0, canAll_pairs r]
    rfl
theorem depthAll_pairs : ∀ ps : List (Int × Int), PyData.depthAll (ps.map fun p => .tuple [.int p.1, .int p.2]) ≤ 1
  | [] => by decide
  | _ :: r => by
    rw [List.map_cons, PyData.depthAll]
    exact Nat.max_le.mpr ⟨by simp only [PyData.depth, PyData.depthAll]; omega, depthAll_pairs r⟩
theorem shaped_VL (ps : List (Int × Int)) : SeqAt.shaped (VL ps) = true := by
  unfold SeqAt.shaped VL
  rw [PyData.canLay0, canAll_pairs, PyData.depth, Bool.true_and, decide_eq_true_eq]
  have := depthAll_pairs ps
  omega
theorem eq_VL (xs ys : List (Int × Int)) : cmpD .eq (VL xs) (VL ys) = some (decide (xs = ys)) := by
  show (if SeqAt.shaped (VL xs) && SeqAt.shaped (VL ys) then some (PyData.eqv (VL xs) (VL ys)) else none) = _
  rw [shaped_VL, shaped_VL]
  show some (PyData.eqv (VL xs) (VL ys)) = _
  unfold VL
  rw [PyData.eqv, eqvAll_pairs]
theorem ne_VL (xs ys : List (Int × Int)) : cmpD .ne (VL xs) (VL ys) = some (!decide (xs = ys)) := by
  show (if SeqAt.shaped (VL xs) && SeqAt.shaped (VL ys) then some (!PyData.eqv (VL xs) (VL ys)) else none) = _
  rw [shaped_VL, shaped_VL]
  show some (!PyData.eqv (VL xs) (VL ys)) = _
  unfold VL
  rw [PyData.eqv, eqvAll_pairs]
theorem pair_0 (a b : Int) : subD (.tuple [.int a, .int b]) 0 = some (.int a) := rfl
theorem pair_1 (a b : Int) : subD (.tuple [.int a, .int b]) 1 = some (.int b) := rfl
theorem len_VL (xs : List (Int × Int)) : bltD .len [VL xs] = some (.int xs.length) := by
  show some (PyData.int (xs.map _).length) = _
  rw [List.length_map]
theorem frz_VL (ps : List (Int × Int)) (R : MH) : frzM (.m 0) (.lst (ps.map fun p => .d (.tuple [.int p.1, .int p.2])) :: R) = some (VL ps, .dead :: R) := by
  have e : dats (ps.map fun p => W.d (.tuple [.int p.1, .int p.2])) = some (ps.map fun p => .tuple [.int p.1, .int p.2]) := by
    have := dats_d (ps.map fun p => .tuple [.int p.1, .int p.2])
    rw [List.map_map] at this
    exact this
  unfold frzM
  simp only [List.getElem?_cons_zero, e]
  rfl
theorem LI_fold (xs : List Int) : PyData.list (xs.map .int) = LI xs := rfl
theorem frz_ints {M : MH} {n : Nat} {xs : List Int} (h : M[n]? = some (.lst (xs.map fun i => .d (.int i)))) : frzM (.m n) M = some (LI xs, M.set n .dead) := by
  unfold frzM
  simp only [h, dats_ints]
  rfl
theorem Dw_frz (ns : List Int) (c : Int) (xs : List Int) (R : MH) : frzM (.m 2) (Dw ns c (.lst (xs.map fun i => .d (.int i)) :: R)) = some (LI xs, Dw ns c (.dead :: R)) := frz_ints rfl
theorem frz_0 (xs : List Int) (R : MH) : frzM (.m 0) (.lst (xs.map fun i => .d (.int i)) :: R) = some (LI xs, .dead :: R) := frz_ints rfl
/-- a def's body, once -/
theorem run_eq {T : List FI} {k f : Nat} {ws : List W} {M : MH} {fi : FI} (h : T[f]? = some fi) (hl : ws.length = fi.np) : run T (k + 1) f ws M = fin (exSs (run T k) fi.body (startW fi ws) M) := by
  show (match T[f]? with
    | none => none
    | some fi => if ws.length = fi.np then fin (exSs (run T k) fi.body (startW fi ws) M) else none) = _
  rw [h]
  show (if ws.length = fi.np then fin (exSs (run T k) fi.body (startW fi ws) M) else none) = _
  rw [if_pos hl]
theorem run_ret {T : List FI} {k f : Nat} {ws : List W} {M M' : MH} {fi : FI} {w : W} (h : T[f]? = some fi) (hl : ws.length = fi.np) (e : exSs (run T k) fi.body (startW fi ws) M = some (.rt w M')) : run T (k + 1) f ws M = some (.val w M') := by
  rw [run_eq h hl, e]
  rfl
theorem run_end {T : List FI} {k f : Nat} {ws : List W} {σ : Sl} {M M' : MH} {fi : FI} (h : T[f]? = some fi) (hl : ws.length = fi.np) (e : exSs (run T k) fi.body (startW fi ws) M = some (.nx σ M')) : run T (k + 1) f ws M = some (.val (.d .none) M') := by
  rw [run_eq h hl, e]
  rfl
theorem run_exc {T : List FI} {k f c : Nat} {ws : List W} {σ : Sl} {M M' : MH} {fi : FI} (h : T[f]? = some fi) (hl : ws.length = fi.np) (e : exSs (run T k) fi.body (startW fi ws) M = some (.ex c σ M')) : run T (k + 1) f ws M = some (.exc c M') := by
  rw [run_eq h hl, e]
  rfl
section
variable {cf : CF} {s : IS} {ss : ISs} {σ σ1 : Sl} {M M1 : MH}
theorem exSs_cons (h : exS cf s σ M = some (.nx σ1 M1)) : exSs cf (.cons s ss) σ M = exSs cf ss σ1 M1 := by
  rw [exSs, h]
theorem exSs_rt {w : W} (h : exS cf s σ M = some (.rt w M1)) : exSs cf (.cons s ss) σ M = some (.rt w M1) := by
  rw [exSs, h]
theorem exSs_ex {c : Nat} (h : exS cf s σ M = some (.ex c σ1 M1)) : exSs cf (.cons s ss) σ M = some (.ex c σ1 M1) := by
  rw [exSs, h]
theorem exS_for {it : II} {g : List Nat} {b : ISs} {xs : List PyData} {o : Option SO} (h : evi cf it σ M = some (.val xs M1)) (hf : forF (fun x σ1 N => match put g x σ1 with
      | some σ2 => exSs cf b σ2 N
      | none => none) xs σ M1 = o) : exS cf (.for it g b) σ M = o := by
  rw [exS, h]
  exact hf
theorem ev_lcS {mu : Bool} {own : List Nat} {it : II} {g : List Nat} {ifs : IEs} {elt : IE} {xs ys : List PyData} {M2 : MH} (h : evi cf it σ M = some (.val xs M1)) (hf : lcF (fun x N => match put g x (wipeW σ own) with
      | none => none
      | some σ1 => match evC cf ifs σ1 N with
        | some (true, N1) => match ev cf elt σ1 N1 with
          | some (.val (.d y) N2) => some (.keep y N2)
          | _ => none
        | some (false, N1) => some (.skip N1)
        | none => none) xs M1 = some (ys, M2)) (hc : ys.length ≤ cap) : ev cf (.lc mu own it g ifs elt) σ M = some (newL mu ys M2) := by
  rw [ev, h]
  exact (congrArg (fun o : Option (List PyData × MH) => match o with
    | some (ys, M2) => if ys.length ≤ cap then some (newL mu ys M2) else none
    | none => none) hf).trans (if_pos hc)
end
end Wl
namespace Wl
open PySem L2
/-! ### a block in two -/
def takeS : Nat → ISs → ISs
  | 0, _ => .nil
  | _, .nil => .nil
  | n + 1, .cons s ss => .cons s (takeS n ss)
def dropS : Nat → ISs → ISs
  | 0, ss => ss
  | _, .nil => .nil
  | n + 1, .cons _ ss => dropS n ss
theorem exSs_split {cf : CF} (n : Nat) : ∀ (ss : ISs) (σ : Sl) (M : MH), exSs cf ss σ M = match exSs cf (takeS n ss) σ M with
    | some (.nx σ1 M1) => exSs cf (dropS n ss) σ1 M1
    | o => o := by
  induction n with
  | zero =>
    intro ss σ M
    rw [takeS, dropS, exSs]
  | succ n ih =>
    intro ss σ M
    cases ss with
    | nil =>
      show exSs cf .nil σ M = _
      rw [show takeS (n + 1) .nil = .nil from rfl, show dropS (n + 1) .nil = .nil from rfl, exSs]
      show _ = exSs cf .nil σ M
      rw [exSs]
    | cons s ss =>
      rw [takeS, dropS, exSs, exSs]
      cases exS cf s σ M with
      | none => rfl
      | some o =>
        cases o with
        | nx σ1 M1 => exact ih ss σ1 M1
        | rt _ _ => rfl
        | ex _ _ _ => rfl
theorem exSs_two {cf : CF} {ss : ISs} {σ σ1 : Sl} {M M1 : MH} {o : Option SO} (n : Nat) (h : exSs cf (takeS n ss) σ M = some (.nx σ1 M1)) (h2 : exSs cf (dropS n ss) σ1 M1 = o) : exSs cf ss σ M = o := by
  rw [exSs_split n, h]
  exact h2
end Wl

set_option Elab.async false
set_option linter.all false
set_option maxRecDepth 100000
set_option maxHeartbeats 1000000
namespace Law
open PySem Wl L2
theorem isiW_d (t : IT) (x : PyData) (M : MH) : isiW t (.d x) M = isiD t x := rfl
theorem isi_int_int (i : Int) : isiD .int (.int i) = some true := rfl
theorem isi_int_bool (b : Bool) : isiD .int (.bool b) = some true := rfl
theorem isi_int_list (xs : List PyData) : isiD .int (.list xs) = some false := rfl
theorem isi_int_tuple (xs : List PyData) : isiD .int (.tuple xs) = some false := rfl
theorem isi_int_str (s : Str) : isiD .int (.str s) = some false := rfl
theorem isi_int_none  : isiD .int (.none) = some false := rfl
theorem isi_int_LI (xs : List Int) : isiD .int (LI xs) = some false := rfl
theorem isi_int_VL (xs : List (Int × Int)) : isiD .int (VL xs) = some false := rfl
theorem isi_bool_int (i : Int) : isiD .bool (.int i) = some false := rfl
theorem isi_bool_bool (b : Bool) : isiD .bool (.bool b) = some true := rfl
theorem isi_bool_list (xs : List PyData) : isiD .bool (.list xs) = some false := rfl
theorem isi_bool_tuple (xs : List PyData) : isiD .bool (.tuple xs) = some false := rfl
theorem isi_bool_str (s : Str) : isiD .bool (.str s) = some false := rfl
theorem isi_bool_none  : isiD .bool (.none) = some false := rfl
theorem isi_bool_LI (xs : List Int) : isiD .bool (LI xs) = some false := rfl
theorem isi_bool_VL (xs : List (Int × Int)) : isiD .bool (VL xs) = some false := rfl
theorem isi_list_int (i : Int) : isiD .list (.int i) = some false := rfl
theorem isi_list_bool (b : Bool) : isiD .list (.bool b) = some false := rfl
theorem isi_list_list (xs : List PyData) : isiD .list (.list xs) = some true := rfl
theorem isi_list_tuple (xs : List PyData) : isiD .list (.tuple xs) = some false := rfl
theorem isi_list_str (s : Str) : isiD .list (.str s) = some false := rfl
theorem isi_list_none  : isiD .list (.none) = some false := rfl
theorem isi_list_LI (xs : List Int) : isiD .list (LI xs) = some true := rfl
theorem isi_list_VL (xs : List (Int × Int)) : isiD .list (VL xs) = some true := rfl
theorem isi_tuple_int (i : Int) : isiD .tuple (.int i) = some false := rfl
theorem isi_tuple_bool (b : Bool) : isiD .tuple (.bool b) = some false := rfl
theorem isi_tuple_list (xs : List PyData) : isiD .tuple (.list xs) = some false := rfl
theorem isi_tuple_tuple (xs : List PyData) : isiD .tuple (.tuple xs) = some true := rfl
theorem isi_tuple_str (s : Str) : isiD .tuple (.str s) = some false := rfl
theorem isi_tuple_none  : isiD .tuple (.none) = some false := rfl
theorem isi_tuple_LI (xs : List Int) : isiD .tuple (LI xs) = some false := rfl
theorem isi_tuple_VL (xs : List (Int × Int)) : isiD .tuple (VL xs) = some false := rfl
theorem isi_str_int (i : Int) : isiD .str (.int i) = some false := rfl
theorem isi_str_bool (b : Bool) : isiD .str (.bool b) = some false := rfl
theorem isi_str_list (xs : List PyData) : isiD .str (.list xs) = some false := rfl
theorem isi_str_tuple (xs : List PyData) : isiD .str (.tuple xs) = some false := rfl
theorem isi_str_str (s : Str) : isiD .str (.str s) = some true := rfl
theorem isi_str_none  : isiD .str (.none) = some false := rfl
theorem isi_str_LI (xs : List Int) : isiD .str (LI xs) = some false := rfl
theorem isi_str_VL (xs : List (Int × Int)) : isiD .str (VL xs) = some false := rfl

def okRow (xs : List Int) : Prop := xs ≠ [] ∧ xs.length ≤ 12 ∧ ∀ x ∈ xs, 0 ≤ x ∧ x ≤ 9
/-- the least values of the windows -/
def lowsL (xs : List Int) (w : Int) : List Int := (upto (xs.length - w.toNat + 1)).map fun i => minI (win xs i.toNat w.toNat)
theorem win_ne {xs : List Int} {a w : Nat} (h1 : 1 ≤ w) (h2 : a + w ≤ xs.length) : win xs a w ≠ [] := by
  unfold win
  intro e
  have := congrArg List.length e
  rw [List.length_take, List.length_drop, List.length_nil] at this
  omega
theorem cut_at {xs : List Int} {i w : Int} (h1 : 1 ≤ w) (h2 : w ≤ xs.length) (hi : i ∈ upto (xs.length - w.toNat + 1)) : cutI xs (some i) (some (i + w)) = win xs i.toNat w.toNat ∧ win xs i.toNat w.toNat ≠ [] := by
  rw [upto_mem] at hi
  refine ⟨?_, win_ne (by omega) (by omega)⟩
  rw [cutI_win hi.1 (by omega) (by omega)]
  congr 1
  omega
theorem rngw {xs : List Int} {w : Int} (h1 : 1 ≤ w) (h2 : w ≤ xs.length) (h3 : xs.length ≤ 900) : rngD [.int ((xs.length : Int) - w + 1)] = some ((upto (xs.length - w.toNat + 1)).map .int) := by
  rw [rng1 (by omega)]
  congr 3
  omega
theorem lowsL_len (xs : List Int) (w : Int) : (lowsL xs w).length = xs.length - w.toNat + 1 := by
  unfold lowsL
  rw [List.length_map, upto_len]
theorem lowsL_ne (xs : List Int) (w : Int) : lowsL xs w ≠ [] := by
  intro e
  have := congrArg List.length e
  rw [lowsL_len, List.length_nil] at this
  omega
def rowAt (xs : List Int) (p : Int) : Int := (atI xs p).getD 0
theorem rowAt_get {xs : List Int} {p : Int} (h0 : 0 ≤ p) (h1 : p < xs.length) : atI xs p = some (rowAt xs p) := by
  unfold rowAt
  rw [Wl.atI_nat h0, List.getElem?_eq_getElem (by omega)]
  rfl
theorem span_mem {i j v : Int} : v ∈ span i j ↔ i ≤ v ∧ v < j := by
  unfold span
  rw [List.mem_map]
  constructor
  · rintro ⟨k, hk, rfl⟩
    have := List.mem_range.mp hk
    omega
  · intro h
    exact ⟨(v - i).toNat, List.mem_range.mpr (by omega), by omega⟩
theorem span_app {i j k : Int} (h1 : i ≤ j) (h2 : j ≤ k) : span i k = span i j ++ span j k := by
  unfold span
  rw [show (k - i).toNat = (j - i).toNat + (k - j).toNat by omega, List.range_add, List.map_append, List.map_map]
  congr 1
  refine List.map_congr_left fun a _ => ?_
  show i + ((((j - i).toNat + a : Nat)) : Int) = j + (a : Int)
  omega
theorem span_filter {n b : Int} {p : Int → Bool} (h0 : 0 ≤ b) (h1 : b ≤ n) (hp : ∀ z, 1 ≤ z → z ≤ n → (p z = true ↔ z ≤ b)) : (span 1 (n + 1)).filter p = span 1 (b + 1) := by
  rw [span_app (j := b + 1) (by omega) (by omega), List.filter_append]
  have e1 : (span 1 (b + 1)).filter p = span 1 (b + 1) := List.filter_eq_self.mpr fun z hz => by
    rw [span_mem] at hz
    exact (hp z (by omega) (by omega)).mpr (by omega)
  have e2 : (span (b + 1) (n + 1)).filter p = [] := List.filter_eq_nil_iff.mpr fun z hz => by
    rw [span_mem] at hz
    intro e
    have := (hp z (by omega) (by omega)).mp e
    omega
  rw [e1, e2, List.append_nil]
theorem span_last {b : Int} (h : 1 ≤ b) : atI (span 1 (b + 1)) (-1) = some b := by
  have hl : (span 1 (b + 1)).length = b.toNat := by
    unfold span
    rw [List.length_map, List.length_range]
    omega
  have hn : span 1 (b + 1) ≠ [] := by
    intro e
    rw [e] at hl
    simp at hl
    omega
  rw [atI_last hn, List.getLast?_eq_getElem?, hl]
  unfold span
  rw [List.getElem?_map, List.getElem?_range (by omega)]
  show some (1 + ((b.toNat - 1 : Nat) : Int)) = some b
  congr 1
  omega
theorem span_get {i j v : Int} {k : Nat} (h : (span i j)[k]? = some v) : v = i + k ∧ k < (j - i).toNat := by
  unfold span at h
  rw [List.getElem?_map] at h
  cases e : (List.range (j - i).toNat)[k]? with
  | none =>
    rw [e] at h
    cases h
  | some m =>
    rw [e] at h
    obtain ⟨h1, h2⟩ := List.getElem?_eq_some_iff.mp e
    rw [List.length_range] at h1
    rw [List.getElem_range] at h2
    subst h2
    cases h
    exact ⟨rfl, h1⟩
theorem asgC_st {cf : CF} {i : Nat} {mu : Bool} {own : List Nat} {it : II} {g : List Nat} {ifs : IEs} {elt : IE} {σ : Sl} {M M1 : MH} {w : W} (h : ev cf (.lc mu own it g ifs elt) σ M = some (.val w M1)) : exS cf (.asgC i mu own it g ifs elt) σ M = some (.nx (σ.set i (some w)) M1) := by
  rw [exS, h]
  rfl
theorem asg_st {cf : CF} {i : Nat} {e : IE} {σ : Sl} {M M1 : MH} {w : W} (h : ev cf e σ M = some (.val w M1)) : exS cf (.asg i e) σ M = some (.nx (σ.set i (some w)) M1) := by
  rw [exS, h]
  rfl
/-- the greatest values of the windows -/
def highsL (xs : List Int) (w : Int) : List Int := (upto (xs.length - w.toNat + 1)).map fun i => maxI (win xs i.toNat w.toNat)
def diffL (lo hi : List Int) : List Int := (lo.zip hi).map fun p => p.2 - p.1
theorem diff_ev {cf : CF} {a b : IE} {i j : Nat} {σ : Sl} {M : MH} {lo hi : List Int} (e : IE) (ha : ev cf a σ M = some (.val (.d (LI lo)) M)) (hb : ev cf b σ M = some (.val (.d (LI hi)) M)) (hl : lo.length ≤ 900)
    (he : ∀ x y : Int, ∃ σ1, putAll [i, j] [.int x, .int y] (wipeW σ [i, j]) = some σ1 ∧ ev cf e σ1 M = some (.val (.d (.int (y - x))) M)) :
    ev cf (.lc false [i, j] (.zip (.cons a (.cons b .nil))) [i, j] .nil e) σ M = some (.val (.d (LI (diffL lo hi))) M) := by
  rw [ev_lcS (xs := (lo.zip hi).map fun p => PyData.tuple [.int p.1, .int p.2]) (ys := (lo.zip hi).map fun p => .int (p.2 - p.1)) (M1 := M) (M2 := M)]
  · unfold diffL
    rw [LI_def, List.map_map]
    rfl
  · rw [evi, evs, ha]
    simp only [evs, hb]
    rw [LI_def, LI_def]
    simp only [zip_ints]
  · refine lcF_map fun p _ => ?_
    obtain ⟨σ1, h1, h2⟩ := he p.1 p.2
    show (match putAll [i, j] [.int p.1, .int p.2] (wipeW σ [i, j]) with
      | none => none
      | some σ1 => match evC cf .nil σ1 M with
        | some (true, N1) => match ev cf e σ1 N1 with
          | some (.val (.d y) N2) => some (CR.keep y N2)
          | _ => none
        | some (false, N1) => some (.skip N1)
        | none => none) = _
    rw [h1]
    simp only [evC, h2]
  · rw [List.length_map, List.length_zip]
    exact cap_of (by omega)
def placesN (xs : List Int) (w : Int) (n : Nat) : List Int := (upto n).map fun (i : Int) => i + ((placeI (win xs i.toNat w.toNat) : Nat) : Int)
def placesL (xs : List Int) (w : Int) : List Int := placesN xs w (xs.length - w.toNat + 1)
theorem placesN_succ (xs : List Int) (w : Int) (n : Nat) : placesN xs w (n + 1) = placesN xs w n ++ [(n : Int) + (placeI (win xs n w.toNat) : Int)] := by
  unfold placesN
  rw [upto_succ, List.map_append]
  rfl
theorem placesN_len (xs : List Int) (w : Int) (n : Nat) : (placesN xs w n).length = n := by
  unfold placesN
  rw [List.length_map, upto_len]
/-- the longest run, the run at the end -/
def runS (c : Int) (l : List Int) : Int × Int := l.foldl (fun s v => (if (if c ≤ v then s.2 + 1 else 0) > s.1 then (if c ≤ v then s.2 + 1 else 0) else s.1, if c ≤ v then s.2 + 1 else 0)) (0, 0)
theorem runS_snoc (c : Int) (l : List Int) (v : Int) : runS c (l ++ [v]) = (if (if c ≤ v then (runS c l).2 + 1 else 0) > (runS c l).1 then (if c ≤ v then (runS c l).2 + 1 else 0) else (runS c l).1, if c ≤ v then (runS c l).2 + 1 else 0) := by
  unfold runS
  rw [List.foldl_append]
  rfl
theorem map_get {xs : List Int} {i : Nat} {x : PyData} (h : (xs.map PyData.int)[i]? = some x) : ∃ v, xs[i]? = some v ∧ x = .int v := by
  rw [List.getElem?_map] at h
  cases e : xs[i]? with
  | none =>
    rw [e] at h
    cases h
  | some v =>
    rw [e] at h
    cases h
    exact ⟨v, rfl, rfl⟩
theorem take_snoc {α : Type} {xs : List α} {i : Nat} {v : α} (h : xs[i]? = some v) : xs.take (i + 1) = xs.take i ++ [v] := by
  rw [List.take_succ, h]
  rfl
def good (c : Int) (l : List Int) : Prop := ∀ v ∈ l, c ≤ v
theorem runS_spec (c : Int) : ∀ n (l : List Int), l.length = n → ((0 ≤ (runS c l).2 ∧ (∀ s, s <:+ l → good c s → (s.length : Int) ≤ (runS c l).2) ∧ (∃ s, s <:+ l ∧ good c s ∧ (s.length : Int) = (runS c l).2)) ∧ (∀ s, s <:+: l → good c s → (s.length : Int) ≤ (runS c l).1) ∧ (∃ s, s <:+: l ∧ good c s ∧ (s.length : Int) = (runS c l).1)) := by
  intro n
  induction n with
  | zero =>
    intro l hl
    have e := List.eq_nil_of_length_eq_zero hl
    subst e
    refine ⟨⟨Int.le_refl 0, fun s hs _ => ?_, [], List.suffix_refl _, fun v hv => absurd hv (by simp), rfl⟩, fun s hs _ => ?_, [], List.infix_refl _, fun v hv => absurd hv (by simp), rfl⟩
    · have e := List.suffix_nil.mp hs
      subst e
      exact Int.le_refl 0
    · have e := List.infix_nil.mp hs
      subst e
      exact Int.le_refl 0
  | succ n ih =>
    intro l hl
    have hne : l ≠ [] := by
      intro z
      rw [z] at hl
      cases hl
    obtain ⟨p, v, rfl⟩ : ∃ p v, l = p ++ [v] := ⟨l.dropLast, l.getLast hne, (List.dropLast_concat_getLast hne).symm⟩
    obtain ⟨⟨n0, n1, ⟨s2, n2, n3, n4⟩⟩, b1, ⟨s4, b2, b3, b4⟩⟩ := ih p (by rw [List.length_append] at hl; simpa using hl)
    rw [runS_snoc]
    generalize hr : runS c p = r at *
    obtain ⟨b, m⟩ := r
    simp only at *
    have suf : ∀ s, s <:+ p ++ [v] → good c s → (s.length : Int) ≤ (if c ≤ v then m + 1 else 0) := fun s hs hg => by
      rcases List.suffix_concat_iff.mp hs with e | ⟨t, rfl, ht⟩
      · subst e
        split
        · show (0 : Int) ≤ m + 1
          omega
        · exact Int.le_refl 0
      · have hv : c ≤ v := hg v (by simp)
        rw [if_pos hv, List.length_append]
        have := n1 t ht fun u hu => hg u (List.mem_append_left _ hu)
        simp only [List.length_cons, List.length_nil]
        omega
    have suf2 : ∃ s, s <:+ p ++ [v] ∧ good c s ∧ (s.length : Int) = (if c ≤ v then m + 1 else 0) := by
      by_cases hv : c ≤ v
      · rw [if_pos hv]
        refine ⟨s2 ++ [v], List.suffix_concat_iff.mpr (.inr ⟨s2, rfl, n2⟩), fun u hu => ?_, ?_⟩
        · rcases List.mem_append.mp hu with z | z
          · exact n3 u z
          · have : u = v := by simpa using z
            rw [this]
            exact hv
        · rw [List.length_append]
          simp only [List.length_cons, List.length_nil]
          omega
      · rw [if_neg hv]
        exact ⟨[], List.nil_suffix, fun v hv => absurd hv (by simp), rfl⟩
    refine ⟨⟨by split <;> omega, suf, suf2⟩, fun s hs hg => ?_, ?_⟩
    · rcases List.infix_concat_iff.mp hs with z | z
      · have := suf s z hg
        split <;> omega
      · have := b1 s z hg
        split <;> omega
    · by_cases hx : (if c ≤ v then m + 1 else 0) > b
      · rw [if_pos hx]
        obtain ⟨s, h1, h2, h3⟩ := suf2
        exact ⟨s, h1.isInfix, h2, h3⟩
      · rw [if_neg hx]
        exact ⟨s4, List.infix_concat_iff.mpr (.inr b2), b3, b4⟩
/-- a valley -/
def isV (xs : List Int) (f l : Int) : Bool := (cutI xs (some f) (some (l + 1))).all fun v => decide (v < if rowAt xs (l + 1) < rowAt xs (f - 1) then rowAt xs (l + 1) else rowAt xs (f - 1))
def valF (xs : List Int) (f : Int) (ls : List Int) : List (Int × Int) := (ls.filter (isV xs f)).map fun l => (f, l)
def valleysL (xs : List Int) : List (Int × Int) := (span 1 ((xs.length : Int) - 1)).flatMap fun f => valF xs f (span f ((xs.length : Int) - 1))
def pW (p : Int × Int) : W := .d (.tuple [.int p.1, .int p.2])
theorem span_len (i j : Int) : (span i j).length = (j - i).toNat := by
  unfold span
  rw [List.length_map, List.length_range]
theorem valF_len (xs : List Int) (f : Int) (ls : List Int) : (valF xs f ls).length ≤ ls.length := by
  unfold valF
  rw [List.length_map]
  exact List.length_filter_le _ _
theorem flat_len {α β : Type} {g : α → List β} {n : Nat} : ∀ {xs : List α}, (∀ x ∈ xs, (g x).length ≤ n) → (xs.flatMap g).length ≤ xs.length * n
  | [], _ => by simp
  | x :: xs, h => by
    rw [List.flatMap_cons, List.length_append, List.length_cons, Nat.succ_mul]
    have h1 := h x (by simp)
    have h2 := flat_len (xs := xs) fun y hy => h y (List.mem_cons_of_mem _ hy)
    omega
theorem valF_snoc (xs : List Int) (f : Int) (ls : List Int) (l : Int) : valF xs f (ls ++ [l]) = if isV xs f l then valF xs f ls ++ [(f, l)] else valF xs f ls := by
  unfold valF
  rw [List.filter_append, List.map_append]
  by_cases h : isV xs f l
  · rw [if_pos h, List.filter_cons_of_pos h]
    rfl
  · rw [if_neg h, List.filter_cons_of_neg h]
    simp
def vW (p : Int × Int) : Int := p.2 - p.1 + 1
def shortL (xs : List Int) (w : Int) : List (Int × Int) := (valleysL xs).filter fun p => decide (vW p < w)
theorem valleys_len {xs : List Int} (h : xs.length ≤ 12) : (valleysL xs).length ≤ 144 := by
  have := flat_len (g := fun f => valF xs f (span f ((xs.length : Int) - 1))) (n := 12) (xs := span 1 ((xs.length : Int) - 1)) fun y hy => by
    have := valF_len xs y (span y ((xs.length : Int) - 1))
    rw [span_len] at this
    rw [span_mem] at hy
    omega
  rw [span_len] at this
  unfold valleysL
  omega
theorem upto_at {n : Nat} {f : Int → Int} {i : Nat} (h : i < n) : atI ((upto n).map f) (i : Int) = some (f i) := by
  rw [Wl.atI_nat (Int.natCast_nonneg i), Int.toNat_natCast, List.getElem?_map]
  unfold upto
  rw [List.getElem?_map, List.getElem?_range h]
  rfl
theorem lowsL_at {xs : List Int} {w : Int} {i : Nat} (h : i < xs.length - w.toNat + 1) : atI (lowsL xs w) (i : Int) = some (minI (win xs i w.toNat)) := upto_at h
theorem win_get {xs : List Int} {a w j : Nat} (h : j < w) : (win xs a w)[j]? = xs[a + j]? := by
  unfold win
  rw [List.getElem?_take_of_lt h, List.getElem?_drop]
theorem win_len {xs : List Int} {a w : Nat} (h : a + w ≤ xs.length) : (win xs a w).length = w := by
  unfold win
  rw [List.length_take, List.length_drop]
  omega
theorem win_mem {xs : List Int} {a w : Nat} {v : Int} (h : a + w ≤ xs.length) : v ∈ win xs a w ↔ ∃ j, j < w ∧ xs[a + j]? = some v := by
  constructor
  · intro hm
    obtain ⟨j, hj⟩ := List.getElem?_of_mem hm
    have hl := (List.getElem?_eq_some_iff.mp hj).1
    rw [win_len h] at hl
    exact ⟨j, hl, by rw [← win_get hl]; exact hj⟩
  · rintro ⟨j, hj, e⟩
    rw [← win_get hj] at e
    exact List.mem_of_getElem? e
/-- the place of a window's least value -/
theorem place_facts {xs : List Int} {a w : Nat} (h1 : 1 ≤ w) (h2 : a + w ≤ xs.length) : placeI (win xs a w) < w ∧ xs[a + placeI (win xs a w)]? = some (minI (win xs a w)) ∧ minI (win xs a w) ∉ win xs a (placeI (win xs a w)) := by
  obtain ⟨_, q2, q3⟩ := placeI_at (win_ne h1 h2)
  have hl : placeI (win xs a w) < w := by
    have := (List.getElem?_eq_some_iff.mp q2).1
    rw [win_len h2] at this
    exact this
  refine ⟨hl, by rw [← win_get hl]; exact q2, fun hm => ?_⟩
  obtain ⟨j, hj⟩ := List.getElem?_of_mem hm
  have hj1 : j < placeI (win xs a w) := by
    have := (List.getElem?_eq_some_iff.mp hj).1
    rw [win_len (by omega)] at this
    exact this
  rw [win_get hj1] at hj
  exact q3 j hj1 (by rw [win_get (by omega)]; exact hj)
theorem placesL_at {xs : List Int} {w : Int} {i : Nat} (h : i < xs.length - w.toNat + 1) : atI (placesL xs w) (i : Int) = some ((i : Int) + (placeI (win xs i w.toNat) : Int)) := by
  unfold placesL placesN
  exact upto_at (f := fun (i : Int) => i + ((placeI (win xs i.toNat w.toNat) : Nat) : Int)) h
theorem rowAt_places {xs : List Int} {w : Int} (h1 : 1 ≤ w) (h2 : w ≤ xs.length) : (placesL xs w).map (rowAt xs) = lowsL xs w := by
  unfold placesL placesN lowsL
  rw [List.map_map]
  refine List.map_congr_left fun i hi => ?_
  rw [upto_mem] at hi
  obtain ⟨q1, q2, _⟩ := place_facts (xs := xs) (a := i.toNat) (w := w.toNat) (by omega) (by omega)
  show rowAt xs (i + (placeI (win xs i.toNat w.toNat) : Int)) = _
  unfold rowAt
  rw [Wl.atI_nat (by omega), show (i + (placeI (win xs i.toNat w.toNat) : Int)).toNat = i.toNat + placeI (win xs i.toNat w.toNat) by omega, q2]
  rfl
theorem places_mem {xs : List Int} {w p : Int} (h1 : 1 ≤ w) (h2 : w ≤ xs.length) (h : p ∈ placesL xs w) : atI xs p = some (rowAt xs p) := by
  unfold placesL placesN at h
  obtain ⟨i, hi, rfl⟩ := List.mem_map.mp h
  rw [upto_mem] at hi
  obtain ⟨q1, q2, _⟩ := place_facts (xs := xs) (a := i.toNat) (w := w.toNat) (by omega) (by omega)
  unfold rowAt
  rw [Wl.atI_nat (by omega), show (i + (placeI (win xs i.toNat w.toNat) : Int)).toNat = i.toNat + placeI (win xs i.toNat w.toNat) by omega, q2]
  rfl
theorem placesL_len (xs : List Int) (w : Int) : (placesL xs w).length = xs.length - w.toNat + 1 := placesN_len _ _ _
/-- the windows are the parts -/
theorem win_infix (xs : List Int) (a w : Nat) : win xs a w <:+: xs := (List.take_prefix w _).isInfix.trans (List.drop_suffix a xs).isInfix
theorem infix_win {s xs : List Int} (h : s <:+: xs) : ∃ a, a + s.length ≤ xs.length ∧ win xs a s.length = s := by
  obtain ⟨p, q, rfl⟩ := h
  refine ⟨p.length, by rw [List.length_append, List.length_append]; omega, ?_⟩
  unfold win
  rw [List.append_assoc, List.drop_left, List.take_left]
theorem widest_iff {xs : List Int} {c z : Int} (h1 : 1 ≤ z) (h2 : z ≤ xs.length) : c ≤ maxI (lowsL xs z) ↔ z ≤ (runS c xs).1 := by
  obtain ⟨_, b1, s, b2, b3, b4⟩ := runS_spec c _ xs rfl
  rw [le_maxI (lowsL_ne xs z)]
  constructor
  · rintro ⟨v, hv, hc⟩
    unfold lowsL at hv
    obtain ⟨i, hi, rfl⟩ := List.mem_map.mp hv
    rw [upto_mem] at hi
    have hn : win xs i.toNat z.toNat ≠ [] := win_ne (by omega) (by omega)
    have := b1 _ (win_infix xs i.toNat z.toNat) ((le_minI hn).mp hc)
    rw [win_len (by omega)] at this
    omega
  · intro hz
    have hi : s.take z.toNat <:+: xs := (List.take_prefix _ s).isInfix.trans b2
    obtain ⟨a, a1, a2⟩ := infix_win hi
    have hl : (s.take z.toNat).length = z.toNat := by
      rw [List.length_take]
      omega
    rw [hl] at a1 a2
    refine ⟨minI (win xs a z.toNat), ?_, ?_⟩
    · unfold lowsL
      exact List.mem_map.mpr ⟨(a : Int), upto_mem.mpr ⟨by omega, by omega⟩, by rw [Int.toNat_natCast]⟩
    · rw [a2]
      have hn : s.take z.toNat ≠ [] := by
        intro e
        rw [e] at hl
        simp at hl
        omega
      exact (le_minI hn).mpr fun v hv => b3 v (List.mem_of_mem_take hv)
theorem runS_le (c : Int) (xs : List Int) : 0 ≤ (runS c xs).1 ∧ (runS c xs).1 ≤ xs.length := by
  obtain ⟨_, _, s, b2, _, b4⟩ := runS_spec c _ xs rfl
  have := b2.length_le
  omega
theorem lowsL_one (xs : List Int) (h : xs ≠ []) : lowsL xs 1 = xs := by
  have hl := List.length_pos_iff.mpr h
  unfold lowsL
  refine List.ext_getElem? fun i => ?_
  rw [List.getElem?_map]
  by_cases hi : i < xs.length
  · unfold upto
    rw [List.getElem?_map, List.getElem?_range (show i < xs.length - (1 : Int).toNat + 1 by simp; omega)]
    show some (minI (win xs i 1)) = _
    have e : win xs i 1 = [xs[i]] := by
      unfold win
      rw [List.drop_eq_getElem_cons hi]
      rfl
    rw [e, List.getElem?_eq_getElem hi]
    rfl
  · rw [List.getElem?_eq_none (by rw [upto_len]; simp; omega), List.getElem?_eq_none (by omega)]
    rfl
theorem lowsL_all (xs : List Int) : lowsL xs xs.length = [minI xs] := by
  unfold lowsL
  rw [Int.toNat_natCast, Nat.sub_self]
  show [minI (win xs 0 xs.length)] = _
  unfold win
  rw [List.drop_zero, List.take_length]
theorem okRow_lows {xs : List Int} {w : Int} (h : okRow xs) (h1 : 1 ≤ w) (h2 : w ≤ xs.length) : okRow (lowsL xs w) := by
  have hl := h.2.1
  refine ⟨lowsL_ne xs w, by rw [lowsL_len]; omega, fun v hv => ?_⟩
  unfold lowsL at hv
  obtain ⟨i, hi, rfl⟩ := List.mem_map.mp hv
  rw [upto_mem] at hi
  have hm := minI_mem (win_ne (xs := xs) (a := i.toNat) (w := w.toNat) (by omega) (by omega))
  rw [win_mem (by omega)] at hm
  obtain ⟨j, _, e⟩ := hm
  exact h.2.2 _ (List.mem_of_getElem? e)
theorem rowAt_lows {xs : List Int} {w i : Int} (h0 : 0 ≤ i) (h : i < (lowsL xs w).length) : rowAt (lowsL xs w) i = minI (win xs i.toNat w.toNat) := by
  rw [lowsL_len] at h
  have := lowsL_at (xs := xs) (w := w) (i := i.toNat) (by omega)
  rw [show ((i.toNat : Nat) : Int) = i by omega] at this
  unfold rowAt
  rw [this]
  rfl
theorem valley_mem {xs : List Int} {p : Int × Int} : p ∈ valleysL xs ↔ 1 ≤ p.1 ∧ p.1 ≤ p.2 ∧ p.2 < (xs.length : Int) - 1 ∧ isV xs p.1 p.2 = true := by
  unfold valleysL valF
  rw [List.mem_flatMap]
  constructor
  · rintro ⟨f, hf, hp⟩
    obtain ⟨l, hl, rfl⟩ := List.mem_map.mp hp
    rw [List.mem_filter, span_mem] at hl
    rw [span_mem] at hf
    exact ⟨hf.1, hl.1.1, hl.1.2, hl.2⟩
  · rintro ⟨h1, h2, h3, h4⟩
    exact ⟨p.1, span_mem.mpr ⟨h1, by omega⟩, List.mem_map.mpr ⟨p.2, List.mem_filter.mpr ⟨span_mem.mpr ⟨h2, h3⟩, h4⟩, rfl⟩⟩
theorem isV_iff {xs : List Int} {f l : Int} (h1 : 1 ≤ f) (h2 : f ≤ l) (h3 : l < (xs.length : Int) - 1) : isV xs f l = true ↔ ∀ i, f ≤ i → i ≤ l → rowAt xs i < rowAt xs (l + 1) ∧ rowAt xs i < rowAt xs (f - 1) := by
  unfold isV
  rw [cutI_win (by omega) (by omega) (by omega), List.all_eq_true]
  have hw : f.toNat + (l + 1 - f).toNat ≤ xs.length := by omega
  constructor
  · intro q i hi1 hi2
    have hm : rowAt xs i ∈ win xs f.toNat (l + 1 - f).toNat := by
      rw [win_mem hw]
      refine ⟨(i - f).toNat, by omega, ?_⟩
      rw [show f.toNat + (i - f).toNat = i.toNat by omega, ← Wl.atI_nat (by omega)]
      exact rowAt_get (by omega) (by omega)
    have := of_decide_eq_true (q _ hm)
    split at this <;> omega
  · intro q v hv
    rw [win_mem hw] at hv
    obtain ⟨j, hj, e⟩ := hv
    have ev : v = rowAt xs (f + j) := by
      unfold rowAt
      rw [Wl.atI_nat (by omega), show (f + (j : Int)).toNat = f.toNat + j by omega, e]
      rfl
    have := q (f + j) (by omega) (by omega)
    rw [← ev] at this
    refine decide_eq_true ?_
    split <;> omega
/-- a low row's valleys are wide -/
theorem low_valley {xs : List Int} {w : Int} {p : Int × Int} (h1 : 1 ≤ w) (h2 : w ≤ xs.length) (hp : p ∈ valleysL (lowsL xs w)) : w ≤ vW p := by
  obtain ⟨f, l⟩ := p
  obtain ⟨p1, p2, p3, p4⟩ := valley_mem.mp hp
  simp only at p1 p2 p3 p4
  rw [isV_iff p1 p2 p3] at p4
  obtain ⟨g1, g2⟩ := p4 f (Int.le_refl f) p2
  have hlen := lowsL_len xs w
  rw [rowAt_lows (by omega) (by omega), rowAt_lows (by omega) (by omega)] at g1
  rw [rowAt_lows (by omega) (by omega), rowAt_lows (by omega) (by omega)] at g2
  show w ≤ l - f + 1
  refine Int.not_lt.mp fun hs => ?_
  have hm := minI_mem (win_ne (xs := xs) (a := f.toNat) (w := w.toNat) (by omega) (by omega))
  rw [win_mem (by omega)] at hm
  obtain ⟨j, hj, e⟩ := hm
  by_cases hj2 : j + 1 < w.toNat
  · have : minI (win xs f.toNat w.toNat) ∈ win xs (f - 1).toNat w.toNat := (win_mem (by omega)).mpr ⟨j + 1, hj2, by rw [show (f - 1).toNat + (j + 1) = f.toNat + j by omega]; exact e⟩
    have := minI_le this
    omega
  · have : minI (win xs f.toNat w.toNat) ∈ win xs (l + 1).toNat w.toNat := (win_mem (by omega)).mpr ⟨f.toNat + j - (l + 1).toNat, by omega, by rw [show (l + 1).toNat + (f.toNat + j - (l + 1).toNat) = f.toNat + j by omega]; exact e⟩
    have := minI_le this
    omega
theorem low_short {xs : List Int} {w : Int} (h1 : 1 ≤ w) (h2 : w ≤ xs.length) : shortL (lowsL xs w) w = [] := by
  unfold shortL
  refine List.filter_eq_nil_iff.mpr fun p hp => ?_
  have := low_valley h1 h2 hp
  intro e
  have := of_decide_eq_true e
  omega
theorem low_widths {xs : List Int} {w : Int} (h1 : 1 ≤ w) (h2 : w ≤ xs.length) (h3 : xs.length ≤ 12) : w ≤ minI ((valleysL (lowsL xs w)).map vW ++ [13 - ((lowsL xs w).length : Int)]) := by
  refine (le_minI (by simp)).mpr fun v hv => ?_
  rcases List.mem_append.mp hv with z | z
  · obtain ⟨p, hp, rfl⟩ := List.mem_map.mp z
    exact low_valley h1 h2 hp
  · rw [List.mem_singleton] at z
    rw [z, lowsL_len]
    omega
/-- the greatest of the windows' values over each place: the least origin, if there is one -/
def upAt (xs : List Int) (w p : Int) : Int := maxI (cutI xs (some (if p - w + 1 > 0 then p - w + 1 else 0)) (some (p + 1)))
def upN (xs : List Int) (w : Int) (n : Nat) : List Int := (upto n).map (upAt xs w)
def upL (xs : List Int) (w : Int) : List Int := upN xs w (xs.length + w.toNat - 1)
theorem cutI_mem {xs : List Int} {a b v : Int} (ha : 0 ≤ a) (hb : a ≤ b) : v ∈ cutI xs (some a) (some b) ↔ ∃ k : Int, a ≤ k ∧ k < b ∧ k < xs.length ∧ v = rowAt xs k := by
  unfold cutI
  rw [sIx_nat' ha, sIx_nat' (by omega)]
  constructor
  · intro hm
    obtain ⟨j, hj⟩ := List.getElem?_of_mem hm
    have hl := (List.getElem?_eq_some_iff.mp hj).1
    rw [List.length_take, List.length_drop] at hl
    rw [List.getElem?_take_of_lt (by omega), List.getElem?_drop] at hj
    refine ⟨a + j, by omega, by omega, by omega, ?_⟩
    unfold rowAt
    rw [Wl.atI_nat (by omega), show (a + (j : Int)).toNat = min a.toNat xs.length + j by omega, hj]
    rfl
  · rintro ⟨k, k1, k2, k3, rfl⟩
    have hk := rowAt_get (xs := xs) (p := k) (by omega) k3
    rw [Wl.atI_nat (by omega)] at hk
    refine List.mem_of_getElem? (i := k.toNat - min a.toNat xs.length) ?_
    rw [List.getElem?_take_of_lt (by omega), List.getElem?_drop, show min a.toNat xs.length + (k.toNat - min a.toNat xs.length) = k.toNat by omega]
    exact hk
theorem up_lo {w p : Int} : 0 ≤ (if p - w + 1 > 0 then p - w + 1 else 0) ∧ (∀ k : Int, 0 ≤ k → ((if p - w + 1 > 0 then p - w + 1 else 0) ≤ k ↔ p < k + w)) := by
  refine ⟨by split <;> omega, fun k hk => ?_⟩
  split <;> omega
theorem up_ne {xs : List Int} {w p : Int} (h1 : 1 ≤ w) (h0 : 0 ≤ p) (hp : p < (xs.length : Int) + w - 1) (hx : xs ≠ []) : cutI xs (some (if p - w + 1 > 0 then p - w + 1 else 0)) (some (p + 1)) ≠ [] := by
  have hl := List.length_pos_iff.mpr hx
  have q := up_lo (w := w) (p := p)
  intro e
  have hm : rowAt xs (if p - w + 1 > 0 then p - w + 1 else 0) ∈ cutI xs (some (if p - w + 1 > 0 then p - w + 1 else 0)) (some (p + 1)) := (cutI_mem q.1 (by split <;> omega)).mpr ⟨_, Int.le_refl _, by split <;> omega, by split <;> omega, rfl⟩
  rw [e] at hm
  exact absurd hm (by simp)
theorem upAt_ge {xs : List Int} {w p k : Int} (hk0 : 0 ≤ k) (hk : k < xs.length) (h1 : k ≤ p) (h2 : p < k + w) : rowAt xs k ≤ upAt xs w p := by
  have q := up_lo (w := w) (p := p)
  exact maxI_ge ((cutI_mem q.1 (by have := (q.2 k hk0).mpr h2; omega)).mpr ⟨k, (q.2 k hk0).mpr h2, by omega, hk, rfl⟩)
theorem upAt_is {xs : List Int} {w p : Int} (h1 : 1 ≤ w) (h0 : 0 ≤ p) (hp : p < (xs.length : Int) + w - 1) (hx : xs ≠ []) : ∃ k : Int, 0 ≤ k ∧ k < xs.length ∧ k ≤ p ∧ p < k + w ∧ upAt xs w p = rowAt xs k := by
  have q := up_lo (w := w) (p := p)
  have hm := maxI_mem (up_ne h1 h0 hp hx)
  obtain ⟨k, k1, k2, k3, k4⟩ := (cutI_mem q.1 (by split <;> omega)).mp hm
  exact ⟨k, by omega, k3, by omega, (q.2 k (by omega)).mp k1, k4⟩
theorem upL_len (xs : List Int) (w : Int) : (upL xs w).length = xs.length + w.toNat - 1 := by
  unfold upL upN
  rw [List.length_map, upto_len]
theorem rowAt_up {xs : List Int} {w p : Int} (h0 : 0 ≤ p) (hp : p < (xs.length + w.toNat - 1 : Nat)) : rowAt (upL xs w) p = upAt xs w p := by
  have := upto_at (n := xs.length + w.toNat - 1) (f := upAt xs w) (i := p.toNat) (by omega)
  rw [show ((p.toNat : Nat) : Int) = p by omega] at this
  unfold rowAt upL upN
  rw [this]
  rfl
theorem row_ext {xs ys : List Int} (hl : xs.length = ys.length) (h : ∀ i : Int, 0 ≤ i → i < xs.length → rowAt xs i = rowAt ys i) : xs = ys := by
  refine List.ext_getElem? fun i => ?_
  by_cases hi : i < xs.length
  · have q := h i (by omega) (by omega)
    have e1 := rowAt_get (xs := xs) (p := i) (by omega) (by omega)
    have e2 := rowAt_get (xs := ys) (p := i) (by omega) (by omega)
    rw [Wl.atI_nat (by omega), Int.toNat_natCast] at e1 e2
    rw [e1, e2, q]
  · rw [List.getElem?_eq_none (by omega), List.getElem?_eq_none (by omega)]
/-- the least value of a window: below each, and one of them -/
theorem low_le {xs : List Int} {w i p : Int} (h1 : 1 ≤ w) (h0 : 0 ≤ i) (h2 : i + w ≤ xs.length) (hp : i ≤ p) (hp2 : p < i + w) : rowAt (lowsL xs w) i ≤ rowAt xs p := by
  rw [rowAt_lows h0 (by rw [lowsL_len]; omega)]
  refine minI_le ((win_mem (by omega)).mpr ⟨(p - i).toNat, by omega, ?_⟩)
  have := rowAt_get (xs := xs) (p := p) (by omega) (by omega)
  rw [Wl.atI_nat (by omega)] at this
  rw [show i.toNat + (p - i).toNat = p.toNat by omega]
  exact this
theorem low_is {xs : List Int} {w i : Int} (h1 : 1 ≤ w) (h0 : 0 ≤ i) (h2 : i + w ≤ xs.length) : ∃ p, i ≤ p ∧ p < i + w ∧ rowAt (lowsL xs w) i = rowAt xs p := by
  have hm := minI_mem (win_ne (xs := xs) (a := i.toNat) (w := w.toNat) (by omega) (by omega))
  rw [win_mem (by omega)] at hm
  obtain ⟨j, hj, e⟩ := hm
  refine ⟨i + j, by omega, by omega, ?_⟩
  rw [rowAt_lows h0 (by rw [lowsL_len]; omega)]
  unfold rowAt
  rw [Wl.atI_nat (by omega), show (i + (j : Int)).toNat = i.toNat + j by omega, e]
  rfl
theorem up_lows_len {xs : List Int} {w : Int} (h1 : 1 ≤ w) (hx : xs ≠ []) : (lowsL (upL xs w) w).length = xs.length := by
  have hl := List.length_pos_iff.mpr hx
  rw [lowsL_len, upL_len]
  omega
theorem up_ge {xs : List Int} {w i : Int} (h1 : 1 ≤ w) (h0 : 0 ≤ i) (h2 : i < xs.length) : rowAt xs i ≤ rowAt (lowsL (upL xs w) w) i := by
  have hl := upL_len xs w
  obtain ⟨p, p1, p2, e⟩ := low_is (xs := upL xs w) (w := w) (i := i) h1 h0 (by omega)
  rw [e, rowAt_up (by omega) (by omega)]
  exact upAt_ge h0 h2 p1 p2
/-- the least origin lies below each origin -/
theorem up_least {xs os : List Int} {w p : Int} (h1 : 1 ≤ w) (hw : w ≤ os.length) (e : lowsL os w = xs) (h0 : 0 ≤ p) (hp : p < os.length) : rowAt (upL xs w) p ≤ rowAt os p := by
  have hl : xs.length = os.length - w.toNat + 1 := by rw [← e, lowsL_len]
  have hx : xs ≠ [] := by
    intro z
    rw [z] at hl
    simp at hl
  obtain ⟨k, k0, k1, k2, k3, k4⟩ := upAt_is (xs := xs) (w := w) (p := p) h1 h0 (by omega) hx
  rw [rowAt_up h0 (by omega), k4, ← e]
  exact low_le h1 k0 (by omega) k2 k3
theorem up_lows {xs os : List Int} {w : Int} (h1 : 1 ≤ w) (hw : w ≤ os.length) (e : lowsL os w = xs) : lowsL (upL xs w) w = xs := by
  have hl : xs.length = os.length - w.toNat + 1 := by rw [← e, lowsL_len]
  have hx : xs ≠ [] := by
    intro z
    rw [z] at hl
    simp at hl
  have hul := upL_len xs w
  refine row_ext (up_lows_len h1 hx) fun i h0 hi => ?_
  rw [up_lows_len h1 hx] at hi
  have g1 := up_ge (xs := xs) h1 h0 hi
  obtain ⟨p, p1, p2, e2⟩ := low_is (xs := os) (w := w) (i := i) h1 h0 (by omega)
  rw [e] at e2
  have g2 := low_le (xs := upL xs w) (w := w) (i := i) (p := p) h1 h0 (by omega) p1 p2
  have g3 := up_least h1 hw e (p := p) (by omega) (by omega)
  omega
theorem maxI_congr {xs ys : List Int} (hx : xs ≠ []) (hy : ys ≠ []) (h : ∀ v, v ∈ xs ↔ v ∈ ys) : maxI xs = maxI ys := by
  have a := maxI_ge ((h _).mp (maxI_mem hx))
  have b := maxI_ge ((h _).mpr (maxI_mem hy))
  omega
def ind (t v : Int) : Int := if t ≤ v then 1 else 0
def levelL (xs : List Int) (t : Int) : List Int := xs.map (ind t)
/-- a map that does not fall -/
def Mono (f : Int → Int) : Prop := ∀ a b, a ≤ b → f a ≤ f b
theorem minI_map {f : Int → Int} (hf : Mono f) {xs : List Int} (h : xs ≠ []) : minI (xs.map f) = f (minI xs) := by
  have h2 : xs.map f ≠ [] := by simpa using h
  have q1 : minI (xs.map f) ≤ f (minI xs) := minI_le (List.mem_map.mpr ⟨_, minI_mem h, rfl⟩)
  obtain ⟨v, hv, e⟩ := List.mem_map.mp (minI_mem h2)
  have q2 := hf _ _ (minI_le hv)
  omega
theorem maxI_map {f : Int → Int} (hf : Mono f) {xs : List Int} (h : xs ≠ []) : maxI (xs.map f) = f (maxI xs) := by
  have h2 : xs.map f ≠ [] := by simpa using h
  have q1 : f (maxI xs) ≤ maxI (xs.map f) := maxI_ge (List.mem_map.mpr ⟨_, maxI_mem h, rfl⟩)
  obtain ⟨v, hv, e⟩ := List.mem_map.mp (maxI_mem h2)
  have q2 := hf _ _ (maxI_ge hv)
  omega
theorem win_map (f : Int → Int) (xs : List Int) (a w : Nat) : win (xs.map f) a w = (win xs a w).map f := by
  unfold win
  rw [List.map_take, List.map_drop]
theorem lowsL_map {f : Int → Int} (hf : Mono f) {xs : List Int} {w : Int} (h1 : 1 ≤ w) (h2 : w ≤ xs.length) : lowsL (xs.map f) w = (lowsL xs w).map f := by
  unfold lowsL
  rw [List.length_map, List.map_map]
  refine List.map_congr_left fun i hi => ?_
  rw [upto_mem] at hi
  rw [win_map, minI_map hf (win_ne (by omega) (by omega))]
  rfl
theorem highsL_map {f : Int → Int} (hf : Mono f) {xs : List Int} {w : Int} (h1 : 1 ≤ w) (h2 : w ≤ xs.length) : highsL (xs.map f) w = (highsL xs w).map f := by
  unfold highsL
  rw [List.length_map, List.map_map]
  refine List.map_congr_left fun i hi => ?_
  rw [upto_mem] at hi
  rw [win_map, maxI_map hf (win_ne (by omega) (by omega))]
  rfl
theorem cutI_map (f : Int → Int) (xs : List Int) (a b : Option Int) : cutI (xs.map f) a b = (cutI xs a b).map f := by
  unfold cutI
  rw [List.length_map, List.map_take, List.map_drop]
theorem upL_map {f : Int → Int} (hf : Mono f) {xs : List Int} {w : Int} (h1 : 1 ≤ w) (hx : xs ≠ []) : upL (xs.map f) w = (upL xs w).map f := by
  have hl := List.length_pos_iff.mpr hx
  unfold upL upN
  rw [List.length_map, List.map_map]
  refine List.map_congr_left fun i hi => ?_
  rw [upto_mem] at hi
  show upAt (xs.map f) w i = f (upAt xs w i)
  unfold upAt
  rw [cutI_map, maxI_map hf (up_ne h1 hi.1 (by omega) hx)]
theorem mono_ind (t : Int) : Mono (ind t) := fun a b h => by
  unfold ind
  split <;> split <;> omega
theorem okRow_level {xs : List Int} (h : okRow xs) (t : Int) : okRow (levelL xs t) := by
  refine ⟨by unfold levelL; simpa using h.1, by unfold levelL; rw [List.length_map]; exact h.2.1, fun v hv => ?_⟩
  unfold levelL at hv
  obtain ⟨u, _, rfl⟩ := List.mem_map.mp hv
  unfold ind
  split <;> omega
theorem rowAt_level {xs : List Int} {t i : Int} (h0 : 0 ≤ i) (h : i < xs.length) : rowAt (levelL xs t) i = ind t (rowAt xs i) := by
  unfold levelL rowAt
  rw [Wl.atI_nat h0, Wl.atI_nat h0, List.getElem?_map, List.getElem?_eq_getElem (by omega)]
  rfl
/-- the valleys are those of the levels -/
theorem valley_level {xs : List Int} (h : okRow xs) {p : Int × Int} : p ∈ valleysL xs ↔ ∃ t : Int, 1 ≤ t ∧ t < 10 ∧ p ∈ valleysL (levelL xs t) := by
  have hlen : ∀ t, (levelL xs t).length = xs.length := fun t => by
    unfold levelL
    rw [List.length_map]
  have rng : ∀ i : Int, 0 ≤ i → i < xs.length → 0 ≤ rowAt xs i ∧ rowAt xs i ≤ 9 := fun i h0 h1 => by
    have e := rowAt_get h0 h1
    rw [Wl.atI_nat h0] at e
    exact h.2.2 _ (List.mem_of_getElem? e)
  constructor
  · intro hp
    obtain ⟨p1, p2, p3, p4⟩ := valley_mem.mp hp
    rw [isV_iff p1 p2 p3] at p4
    have b1 := rng (p.1 - 1) (by omega) (by omega)
    have b2 := rng (p.2 + 1) (by omega) (by omega)
    obtain ⟨t, t1, t2, t3⟩ : ∃ t, t ≤ rowAt xs (p.1 - 1) ∧ t ≤ rowAt xs (p.2 + 1) ∧ (t = rowAt xs (p.1 - 1) ∨ t = rowAt xs (p.2 + 1)) := by
      by_cases hc : rowAt xs (p.1 - 1) ≤ rowAt xs (p.2 + 1)
      · exact ⟨_, Int.le_refl _, hc, .inl rfl⟩
      · exact ⟨_, by omega, Int.le_refl _, .inr rfl⟩
    have hin := p4 p.1 (Int.le_refl _) p2
    have b3 := rng p.1 (by omega) (by omega)
    refine ⟨t, by omega, by omega, valley_mem.mpr ⟨p1, p2, by rw [hlen]; exact p3, (isV_iff p1 p2 (by rw [hlen]; exact p3)).mpr fun i i1 i2 => ?_⟩⟩
    have := p4 i i1 i2
    rw [rowAt_level (by omega) (by omega), rowAt_level (by omega) (by omega), rowAt_level (by omega) (by omega)]
    unfold ind
    rw [if_pos t1, if_pos t2, if_neg (by omega)]
    omega
  · rintro ⟨t, _, _, hp⟩
    obtain ⟨p1, p2, p3, p4⟩ := valley_mem.mp hp
    rw [isV_iff p1 p2 p3] at p4
    rw [hlen] at p3
    refine valley_mem.mpr ⟨p1, p2, p3, (isV_iff p1 p2 p3).mpr fun i i1 i2 => ?_⟩
    have := p4 i i1 i2
    rw [rowAt_level (by omega) (by omega), rowAt_level (by omega) (by omega), rowAt_level (by omega) (by omega)] at this
    unfold ind at this
    split at this <;> split at this <;> split at this <;> omega
theorem short_iff {xs : List Int} {w : Int} : shortL xs w = [] ↔ ∀ p ∈ valleysL xs, w ≤ vW p := by
  unfold shortL
  rw [List.filter_eq_nil_iff]
  constructor
  · intro q p hp
    have := q p hp
    rw [decide_eq_true_eq] at this
    omega
  · intro q p hp
    have := q p hp
    rw [decide_eq_true_eq]
    omega
theorem short_level {xs : List Int} {w : Int} (h : okRow xs) : shortL xs w = [] ↔ ∀ t : Int, 1 ≤ t → t < 10 → shortL (levelL xs t) w = [] := by
  constructor
  · intro q t t1 t2
    rw [short_iff] at q ⊢
    exact fun p hp => q p ((valley_level h).mpr ⟨t, t1, t2, hp⟩)
  · intro q
    rw [short_iff]
    intro p hp
    obtain ⟨t, t1, t2, ht⟩ := (valley_level h).mp hp
    exact short_iff.mp (q t t1 t2) p ht
def gwL (xs : List Int) : Int := minI ((valleysL xs).map vW ++ [13 - (xs.length : Int)])
theorem gw_le {xs : List Int} {c : Int} : c ≤ gwL xs ↔ c ≤ 13 - (xs.length : Int) ∧ ∀ p ∈ valleysL xs, c ≤ vW p := by
  unfold gwL
  rw [le_minI (by simp)]
  constructor
  · intro q
    exact ⟨q _ (by simp), fun p hp => q _ (List.mem_append_left _ (List.mem_map.mpr ⟨p, hp, rfl⟩))⟩
  · rintro ⟨q1, q2⟩ v hv
    rcases List.mem_append.mp hv with z | z
    · obtain ⟨p, hp, rfl⟩ := List.mem_map.mp z
      exact q2 p hp
    · rw [List.mem_singleton] at z
      rw [z]
      exact q1
theorem gw_level {xs : List Int} (h : okRow xs) : gwL xs = minI ((span 1 10).map fun t => gwL (levelL xs t)) := by
  have hlen : ∀ t, (levelL xs t).length = xs.length := fun t => by
    unfold levelL
    rw [List.length_map]
  have hne : ((span 1 10).map fun t => gwL (levelL xs t)) ≠ [] := fun e => by
    have := congrArg List.length e
    rw [List.length_map, span_len] at this
    exact absurd this (by decide)
  have key : ∀ c, c ≤ gwL xs ↔ c ≤ minI ((span 1 10).map fun t => gwL (levelL xs t)) := fun c => by
    rw [le_minI hne, gw_le]
    constructor
    · rintro ⟨q1, q2⟩ v hv
      obtain ⟨t, ht, rfl⟩ := List.mem_map.mp hv
      rw [span_mem] at ht
      rw [gw_le, hlen]
      exact ⟨q1, fun p hp => q2 p ((valley_level h).mpr ⟨t, ht.1, ht.2, hp⟩)⟩
    · intro q
      have q0 := gw_le.mp (q _ (List.mem_map.mpr ⟨1, span_mem.mpr ⟨by decide, by decide⟩, rfl⟩))
      rw [hlen] at q0
      refine ⟨q0.1, fun p hp => ?_⟩
      obtain ⟨t, t1, t2, ht⟩ := (valley_level h).mp hp
      exact (gw_le.mp (q _ (List.mem_map.mpr ⟨t, span_mem.mpr ⟨t1, t2⟩, rfl⟩))).2 p ht
  have a := (key (gwL xs)).mp (Int.le_refl _)
  have b := (key _).mpr (Int.le_refl _)
  omega
def TI (xs : List Int) : PyData := .tuple (xs.map .int)
theorem len_TI (xs : List Int) : bltD .len [TI xs] = some (.int xs.length) := by
  show some (PyData.int (xs.map PyData.int).length) = _
  rw [List.length_map]
theorem seq_TI (xs : List Int) : seqD 1 (TI xs) = some (xs.map .int) := rfl
theorem sub_TI (xs : List Int) (i : Int) : subD (TI xs) i = (atI xs i).map .int := atI_map xs i
theorem isi_TI (xs : List Int) : isiD .tuple (TI xs) = some true := rfl
theorem ite_skip {cf : CF} {t : IE} {a : ISs} {σ : Sl} {M M1 : MH} (h : ev cf t σ M = some (.val (.d (.bool false)) M1)) : exS cf (.ite t a .nil) σ M = some (.nx σ M1) := by
  rw [exS, h]
  simp only [obS, exSs]
/-- a comprehension whose turns draw -/
theorem lcF_dr {step : PyData → MH → Option CR} {R : MH} {P : Int → Int → Prop} : ∀ {xs : List Int} {ns : List Int} {c : Int}, ns ≠ [] → (∀ x ∈ xs, ∀ ns c, ns ≠ [] → ∃ y ns' c', step (.int x) (Dw ns c R) = some (.keep (.int y) (Dw ns' c' R)) ∧ P x y ∧ ns' ≠ []) → ∃ ys ns' c', lcF step (xs.map .int) (Dw ns c R) = some (ys.map .int, Dw ns' c' R) ∧ Paired P xs ys ∧ ns' ≠ []
  | [], ns, c, hn, _ => ⟨[], ns, c, rfl, .nil, hn⟩
  | x :: xs, ns, c, hn, h => by
    obtain ⟨y, n1, c1, e1, p1, hn1⟩ := h x (by simp) ns c hn
    obtain ⟨ys, n2, c2, e2, p2, hn2⟩ := lcF_dr (xs := xs) (c := c1) hn1 fun z hz => h z (List.mem_cons_of_mem _ hz)
    refine ⟨y :: ys, n2, c2, ?_, .cons p1 p2, hn2⟩
    rw [List.map_cons, List.map_cons, lcF, e1]
    simp only [e2]
theorem pair_len {α β : Type} {P : α → β → Prop} {xs : List α} {ys : List β} (h : Paired P xs ys) : xs.length = ys.length := by
  induction h with
  | nil => rfl
  | cons _ _ ih => rw [List.length_cons, List.length_cons, ih]
theorem pair_mem {α β : Type} {P : α → β → Prop} {xs : List α} {ys : List β} (h : Paired P xs ys) {y : β} (hy : y ∈ ys) : ∃ x ∈ xs, P x y := by
  induction h with
  | nil => exact absurd hy (by simp)
  | @cons a b l m h1 _ ih =>
    rcases List.mem_cons.mp hy with e | e
    · rw [e]
      exact ⟨a, by simp, h1⟩
    · obtain ⟨x, hx, q⟩ := ih e
      exact ⟨x, List.mem_cons_of_mem _ hx, q⟩
theorem pair_get {α β : Type} {P : α → β → Prop} {xs : List α} {ys : List β} (h : Paired P xs ys) {i : Nat} {x : α} (hx : xs[i]? = some x) : ∃ y, ys[i]? = some y ∧ P x y := by
  induction h generalizing i with
  | nil => simp at hx
  | @cons a b l m h1 _ ih =>
    cases i with
    | zero =>
      simp at hx
      subst hx
      exact ⟨b, rfl, h1⟩
    | succ i => exact ih (i := i) (by simpa using hx)
theorem pair_row {P : Int → Int → Prop} {xs ys : List Int} (h : Paired P xs ys) {p : Int} (h0 : 0 ≤ p) (h1 : p < xs.length) : P (rowAt xs p) (rowAt ys p) := by
  have hl := pair_len h
  have e := rowAt_get (xs := xs) h0 h1
  rw [Wl.atI_nat h0] at e
  obtain ⟨y, e2, q⟩ := pair_get h e
  have e3 := rowAt_get (xs := ys) h0 (by omega)
  rw [Wl.atI_nat h0, e2] at e3
  cases e3
  exact q
/-! lists of bools -/
def LB (bs : List Bool) : PyData := .list (bs.map .bool)
theorem eqvAll_bools : ∀ ns ms : List Bool, PyData.eqvAll (ns.map PyData.bool) (ms.map PyData.bool) = decide (ns = ms)
  | [], [] => by simp [PyData.eqvAll]
  | [], _ :: _ => by simp [PyData.eqvAll]
  | _ :: _, [] => by simp [PyData.eqvAll]
  | a :: r, b :: t => by
    simp only [List.map_cons, PyData.eqvAll, PyData.eqv, eqvAll_bools r t]
    by_cases h : a = b <;> by_cases h' : r = t <;> simp [h, h']
theorem canAll_bools : ∀ ns : List Bool, PyData.canLayAll0 (ns.map PyData.bool) = true
  | [] => rfl
  | _ :: r => by
    rw [List.map_cons, PyData.canLayAll0, canAll_bools r]
    rfl
theorem depthAll_bools : ∀ ns : List Bool, PyData.depthAll (ns.map PyData.bool) = 0
  | [] => rfl
  | _ :: r => by
    rw [List.map_cons, PyData.depthAll, depthAll_bools r]
    rfl
theorem shaped_LB (xs : List Bool) : SeqAt.shaped (LB xs) = true := by
  unfold SeqAt.shaped LB
  rw [PyData.canLay0, canAll_bools, PyData.depth, depthAll_bools]
  rfl
theorem count_LB (b : Bool) (bs : List Bool) : mthD .count (.list (bs.map .bool)) (.bool b) = some (.int (bs.count b : Nat)) := by
  show (if SeqAt.shaped (.bool b) && SeqAt.shaped (LB bs) then some (PyData.int ((bs.map PyData.bool).countP fun z => PyData.eqv z (.bool b))) else none) = _
  have e := shaped_LB bs
  unfold LB at e ⊢
  rw [e, show SeqAt.shaped (.bool b) = true from rfl]
  show some (PyData.int ((bs.map PyData.bool).countP fun z => PyData.eqv z (.bool b) : Nat)) = _
  rw [List.countP_map]
  congr 1
theorem dats_bools : ∀ ns : List Bool, dats (ns.map fun i => .d (.bool i)) = some (ns.map .bool)
  | [] => rfl
  | n :: ns => by
    rw [List.map_cons]
    unfold dats
    rw [dats_bools ns]
    rfl
theorem Dw_frzB (ns : List Int) (c : Int) (xs : List Bool) (R : MH) : frzM (.m 2) (Dw ns c (.lst (xs.map fun i => .d (.bool i)) :: R)) = some (.list (xs.map .bool), Dw ns c (.dead :: R)) := by
  unfold frzM
  simp only [Dw_eq, List.getElem?_cons_succ, List.getElem?_cons_zero, dats_bools]
  rfl
theorem mthO_list (xs : List PyData) : mthO .count (.d (.list xs)) = some (.list xs) := rfl
theorem ev_lc_dr {cf : CF} {own : List Nat} {it : II} {g : List Nat} {elt : IE} {σ : Sl} {R : MH} {P : Int → Int → Prop} {xs ns : List Int} {c : Int} (hn : ns ≠ []) (hi : evi cf it σ (Dw ns c R) = some (.val (xs.map .int) (Dw ns c R))) (hc : xs.length ≤ 1000)
    (h : ∀ x ∈ xs, ∀ ns c, ns ≠ [] → ∃ y ns' c' σ1, put g (.int x) (wipeW σ own) = some σ1 ∧ ev cf elt σ1 (Dw ns c R) = some (.val (.d (.int y)) (Dw ns' c' R)) ∧ P x y ∧ ns' ≠ []) :
    ∃ ys ns' c', ev cf (.lc false own it g .nil elt) σ (Dw ns c R) = some (.val (.d (LI ys)) (Dw ns' c' R)) ∧ Paired P xs ys ∧ ns' ≠ [] := by
  obtain ⟨ys, n1, c1, e, p, hn1⟩ := lcF_dr (R := R) (P := P) (step := fun x N => match put g x (wipeW σ own) with
      | none => none
      | some σ1 => match evC cf .nil σ1 N with
        | some (true, N1) => match ev cf elt σ1 N1 with
          | some (.val (.d y) N2) => some (.keep y N2)
          | _ => none
        | some (false, N1) => some (.skip N1)
        | none => none) hn (c := c) fun x hx ns c hn => by
    obtain ⟨y, n1, c1, σ1, e1, e2, p, hn1⟩ := h x hx ns c hn
    refine ⟨y, n1, c1, ?_, p, hn1⟩
    simp only [e1, evC, e2]
  refine ⟨ys, n1, c1, ?_, p, hn1⟩
  rw [ev_lcS hi e]
  · rfl
  · rw [List.length_map, ← pair_len p]
    exact cap_of hc
theorem ne_none_none : cmpD .ne (.str "none") (.str "none") = some false := by kernel_rfl
theorem is_ff : cmpD .is (.bool false) (.bool false) = some true := rfl
theorem refOk_mono {n m : Nat} (h : n ≤ m) : ∀ w, refOk n w = true → refOk m w = true
  | .d _, _ => rfl
  | .s _, _ => rfl
  | .m k, q => by
    have : k < n := of_decide_eq_true q
    exact decide_eq_true (by omega)
theorem objOk_mono {n m : Nat} (h : n ≤ m) : ∀ o, objOk n o = true → objOk m o = true
  | .lst ws, q => List.all_eq_true.mpr fun w hw => refOk_mono h w (List.all_eq_true.mp q w hw)
  | .ins ws, q => List.all_eq_true.mpr fun w hw => refOk_mono h w (List.all_eq_true.mp q w hw)
  | .dct _ _, _ => rfl
  | .exc _, _ => rfl
  | .dead, _ => rfl
theorem all_mono {n m : Nat} (h : n ≤ m) {R : MH} (q : R.all (objOk n) = true) : R.all (objOk m) = true := List.all_eq_true.mpr fun o ho => objOk_mono h o (List.all_eq_true.mp q o ho)
theorem gt_last {α : Type} (R : List α) (x : α) : (R ++ [x])[R.length]? = some x := by simp
theorem st_last {α : Type} (R : List α) (x y : α) : (R ++ [x]).set R.length y = R ++ [y] := by simp
theorem frz_last (ns : List Int) (c : Int) (xs : List Int) (R : MH) : frzM (.m (R.length + 2)) (Dw ns c (R ++ [.lst (xs.map fun i => .d (.int i))])) = some (LI xs, Dw ns c (R ++ [.dead])) := by
  unfold frzM
  simp only [Dw_get, Dw_set, gt_last, st_last, dats_ints]
  rfl
theorem len_snoc {α : Type} (R : List α) (x : α) : (R ++ [x]).length = R.length + 1 := by simp
theorem okSnoc {R : MH} {xs : List Int} (h : R.all (objOk (R.length + 2)) = true) : (R ++ [MO.lst (xs.map fun i => .d (.int i))]).all (objOk ((R ++ [MO.lst (xs.map fun i => .d (.int i))]).length + 2)) = true := by
  rw [List.all_append, len_snoc, all_mono (by omega) h]
  show ((xs.map fun i => W.d (.int i)).all (refOk (R.length + 1 + 2)) && true) = true
  rw [refs_ints]
  rfl
/-- the nearest on the left, on the right -/
theorem near_left {P : Int → Prop} : ∀ (n : Nat) {lo hi k : Int}, hi - lo ≤ n → lo ≤ k → k < hi → P k → ∃ a, lo ≤ a ∧ a < hi ∧ P a ∧ ∀ z, a < z → z < hi → ¬ P z := by
  intro n
  induction n with
  | zero =>
    intro lo hi k h1 h2 h3 _
    omega
  | succ n ih =>
    intro lo hi k h1 h2 h3 hk
    rcases Classical.em (∃ z, k < z ∧ z < hi ∧ P z) with ⟨z, z1, z2, z3⟩ | h
    · obtain ⟨a, a1, a2, a3, a4⟩ := ih (lo := k + 1) (hi := hi) (k := z) (by omega) (by omega) z2 z3
      exact ⟨a, by omega, a2, a3, a4⟩
    · exact ⟨k, h2, h3, hk, fun z z1 z2 z3 => h ⟨z, z1, z2, z3⟩⟩
theorem near_right {P : Int → Prop} : ∀ (n : Nat) {lo hi k : Int}, hi - lo ≤ n → lo ≤ k → k < hi → P k → ∃ a, lo ≤ a ∧ a < hi ∧ P a ∧ ∀ z, lo ≤ z → z < a → ¬ P z := by
  intro n
  induction n with
  | zero =>
    intro lo hi k h1 h2 h3 _
    omega
  | succ n ih =>
    intro lo hi k h1 h2 h3 hk
    rcases Classical.em (∃ z, lo ≤ z ∧ z < k ∧ P z) with ⟨z, z1, z2, z3⟩ | h
    · obtain ⟨a, a1, a2, a3, a4⟩ := ih (lo := lo) (hi := k) (k := z) (by omega) z1 z2 z3
      exact ⟨a, a1, by omega, a3, a4⟩
    · exact ⟨k, h2, h3, hk, fun z z1 z2 z3 => h ⟨z, z1, z2, z3⟩⟩
/-- a row has an origin exactly if it has no short valley -/
theorem origin_iff {xs : List Int} {w : Int} (h1 : 1 ≤ w) (hx : xs ≠ []) : lowsL (upL xs w) w = xs ↔ shortL xs w = [] := by
  have hxl := List.length_pos_iff.mpr hx
  have hul := upL_len xs w
  constructor
  · intro e
    rw [← e]
    exact low_short h1 (by omega)
  · intro hs
    refine row_ext (up_lows_len h1 hx) fun i h0 hi => ?_
    rw [up_lows_len h1 hx] at hi
    have g1 := up_ge (xs := xs) h1 h0 hi
    rcases Int.lt_or_eq_of_le g1 with g | g
    · exfalso
      have all : ∀ p, i ≤ p → p < i + w → rowAt xs i < upAt xs w p := fun p p1 p2 => by
        have := low_le (xs := upL xs w) (w := w) (i := i) (p := p) h1 h0 (by omega) p1 p2
        rw [rowAt_up (by omega) (by omega)] at this
        omega
      obtain ⟨k, k0, k1, k2, k3, k4⟩ := upAt_is (xs := xs) (w := w) (p := i) h1 h0 (by omega) hx
      have hk := all i (Int.le_refl i) (by omega)
      rw [k4] at hk
      have hki : k < i := by
        rcases Int.lt_or_eq_of_le k2 with z | z
        · exact z
        · rw [z] at hk
          omega
      obtain ⟨m, m0, m1, m2, m3, m4⟩ := upAt_is (xs := xs) (w := w) (p := i + w - 1) h1 (by omega) (by omega) hx
      have hm := all (i + w - 1) (by omega) (by omega)
      rw [m4] at hm
      have hmi : i < m := by
        have : i ≤ m := by omega
        rcases Int.lt_or_eq_of_le this with z | z
        · exact z
        · rw [← z] at hm
          omega
      obtain ⟨a, a1, a2, a3, a4⟩ := near_left (P := fun z => rowAt xs i < rowAt xs z) i.toNat (lo := 0) (hi := i) (k := k) (by omega) k0 hki hk
      obtain ⟨b, b1, b2, b3, b4⟩ := near_right (P := fun z => rowAt xs i < rowAt xs z) xs.length (lo := i + 1) (hi := xs.length) (k := m) (by omega) (by omega) m1 hm
      have le : ∀ z, a < z → z < b → rowAt xs z ≤ rowAt xs i := fun z z1 z2 => by
        rcases Int.lt_or_le z i with q | q
        · exact Int.not_lt.mp (a4 z z1 q)
        · rcases Int.lt_or_eq_of_le q with q | q
          · exact Int.not_lt.mp (b4 z (by omega) z2)
          · rw [q]
            exact Int.le_refl _
      by_cases hw : b - a - 1 < w
      · have hv : (a + 1, b - 1) ∈ shortL xs w := by
          unfold shortL
          rw [List.mem_filter, valley_mem, decide_eq_true_eq]
          refine ⟨⟨by show 1 ≤ a + 1; omega, by show a + 1 ≤ b - 1; omega, by show b - 1 < (xs.length : Int) - 1; omega, ?_⟩, by show b - 1 - (a + 1) + 1 < w; omega⟩
          rw [isV_iff (by show 1 ≤ a + 1; omega) (by show a + 1 ≤ b - 1; omega) (by show b - 1 < (xs.length : Int) - 1; omega)]
          intro z z1 z2
          have q1 : a + 1 ≤ z := z1
          have q2 : z ≤ b - 1 := z2
          have := le z (by omega) (by omega)
          show rowAt xs z < rowAt xs (b - 1 + 1) ∧ rowAt xs z < rowAt xs (a + 1 - 1)
          rw [show b - 1 + 1 = b by omega, show a + 1 - 1 = a by omega]
          omega
        rw [hs] at hv
        exact absurd hv (by simp)
      · obtain ⟨p, hp⟩ : ∃ p, p = if i < a + w then a + w else i := ⟨_, rfl⟩
        have hp1 : i ≤ p ∧ a + w ≤ p ∧ p < b ∧ p < i + w := by
          subst hp
          split <;> omega
        have q := all p hp1.1 hp1.2.2.2
        obtain ⟨z, z0, z1, z2, z3, z4⟩ := upAt_is (xs := xs) (w := w) (p := p) h1 (by omega) (by omega) hx
        rw [z4] at q
        have := le z (by omega) (by omega)
        omega
    · exact g.symm
/-- the short valleys, found one by one -/
theorem short_flat (xs : List Int) (w : Int) : shortL xs w = (span 1 ((xs.length : Int) - 1)).flatMap fun f => valF xs f (span f (if (xs.length : Int) - 1 < f + w - 1 then (xs.length : Int) - 1 else f + w - 1)) := by
  unfold shortL valleysL
  rw [List.filter_flatMap]
  refine congrArg (fun g => List.flatMap g (span 1 ((xs.length : Int) - 1))) (funext fun f => ?_)
  unfold valF
  rw [List.filter_map, List.filter_filter]
  have e : (span f ((xs.length : Int) - 1)).filter (fun l => ((fun p => decide (vW p < w)) ∘ fun l => (f, l)) l && isV xs f l) = ((span f ((xs.length : Int) - 1)).filter fun l => decide (l < f + w - 1)).filter (isV xs f) := by
    rw [List.filter_filter]
    refine List.filter_congr fun l _ => ?_
    show (decide (vW (f, l) < w) && isV xs f l) = (isV xs f l && decide (l < f + w - 1))
    rw [Bool.and_comm]
    congr 1
    rw [decide_eq_decide]
    show l - f + 1 < w ↔ _
    omega
  rw [e]
  congr 2
  -- the places below a bound
  by_cases hb : (xs.length : Int) - 1 < f + w - 1
  · rw [if_pos hb]
    refine List.filter_eq_self.mpr fun l hl => ?_
    rw [span_mem] at hl
    exact decide_eq_true (by omega)
  · rw [if_neg hb]
    by_cases hf : f ≤ f + w - 1
    · rw [span_app (i := f) (j := f + w - 1) (k := (xs.length : Int) - 1) hf (by omega), List.filter_append]
      rw [List.filter_eq_self.mpr fun l hl => by
        rw [span_mem] at hl
        exact decide_eq_true (by omega)]
      rw [List.filter_eq_nil_iff.mpr fun l hl => by
        rw [span_mem] at hl
        simp
        omega, List.append_nil]
    · have : span f (f + w - 1) = [] := by
        unfold span
        rw [show (f + w - 1 - f).toNat = 0 by omega]
        rfl
      rw [this, List.filter_eq_nil_iff.mpr fun l hl => by
        rw [span_mem] at hl
        simp
        omega]
/-- by max below min -/
theorem isV_max {xs : List Int} {f l : Int} (h1 : 1 ≤ f) (h2 : f ≤ l) (h3 : l < (xs.length : Int) - 1) : isV xs f l = decide (maxI (cutI xs (some f) (some (l + 1))) < if rowAt xs (l + 1) < rowAt xs (f - 1) then rowAt xs (l + 1) else rowAt xs (f - 1)) := by
  unfold isV
  have hne : cutI xs (some f) (some (l + 1)) ≠ [] := by
    rw [cutI_win (by omega) (by omega) (by omega)]
    exact win_ne (by omega) (by omega)
  rw [Bool.eq_iff_iff, List.all_eq_true, decide_eq_true_eq]
  constructor
  · intro q
    exact of_decide_eq_true (q _ (maxI_mem hne))
  · intro q v hv
    have := maxI_ge hv
    exact decide_eq_true (by omega)
/-- pairs as rows -/
def pr (p : Int × Int) : List Int := [p.1, p.2]
theorem rowsD_pairs : ∀ ps : List (Int × Int), rowsD true (ps.map fun p => .tuple [.int p.1, .int p.2]) = some (ps.map pr)
  | [] => rfl
  | p :: ps => by
    rw [List.map_cons, List.map_cons, rowsD, rowsD_pairs ps]
    rfl
theorem intsD_pairs (p : Int × Int) (ps : List (Int × Int)) : intsD ((p :: ps).map fun p => .tuple [.int p.1, .int p.2]) = none := rfl
theorem rowsA_pairs (p : Int × Int) (ps : List (Int × Int)) : rowsA ((p :: ps).map fun p => .tuple [.int p.1, .int p.2]) = some (true, (p :: ps).map pr) := by
  unfold rowsA
  have e : rowsD false ((p :: ps).map fun p => PyData.tuple [.int p.1, .int p.2]) = none := rfl
  rw [e, rowsD_pairs]
  rfl
theorem rowD_pr (p : Int × Int) : rowD true (pr p) = .tuple [.int p.1, .int p.2] := rfl
theorem sorted_VL {ps : List (Int × Int)} (h : (ps.map pr).Pairwise (· ≤ ·)) : bltD .sorted [VL ps] = some (VL ps) := by
  show sortedD (ps.map fun p => .tuple [.int p.1, .int p.2]) = _
  cases ps with
  | nil => rfl
  | cons p ps =>
    unfold sortedD
    rw [intsD_pairs, rowsA_pairs]
    show some (PyData.list ((sortR ((p :: ps).map pr)).map (rowD true))) = _
    rw [sortR_one (.refl _) h, List.map_map]
    rfl
theorem minR_first {x : List Int} : ∀ {xs : List (List Int)}, (∀ y ∈ xs, x ≤ y) → minR x xs = x
  | [], _ => rfl
  | y :: xs, h => by
    unfold minR
    rw [List.foldl_cons]
    have : lexI y x = false := by
      rw [lexI_lt]
      exact decide_eq_false (List.not_lt.mpr (h y (by simp)))
    rw [this, if_neg Bool.false_ne_true]
    exact minR_first fun z hz => h z (List.mem_cons_of_mem _ hz)
theorem min_VL {p : Int × Int} {ps : List (Int × Int)} (h : ((p :: ps).map pr).Pairwise (· ≤ ·)) : bltD .min1 [VL (p :: ps)] = some (.tuple [.int p.1, .int p.2]) := by
  show minD1 ((p :: ps).map fun p => .tuple [.int p.1, .int p.2]) = _
  unfold minD1
  rw [intsD_pairs, rowsA_pairs]
  rw [List.map_cons, List.pairwise_cons] at h
  show some (rowD true (minR (pr p) (ps.map pr))) = _
  rw [minR_first h.1, rowD_pr]
theorem pr_le {p q : Int × Int} (h : p.1 < q.1 ∨ (p.1 = q.1 ∧ p.2 ≤ q.2)) : pr p ≤ pr q := by
  refine List.not_lt.mp fun z => ?_
  unfold pr at z
  rw [List.cons_lt_cons_iff, List.cons_lt_cons_iff] at z
  rcases z with z | ⟨z, z2⟩
  · omega
  · rcases z2 with z2 | ⟨_, z2⟩
    · omega
    · exact absurd z2 (by simp)
theorem span_sorted (i j : Int) : (span i j).Pairwise (· < ·) := by
  unfold span
  rw [List.pairwise_map]
  exact List.pairwise_lt_range.imp fun {a b} h => by omega
theorem valleys_sorted (xs : List Int) : ((valleysL xs).map pr).Pairwise (· ≤ ·) := by
  rw [List.pairwise_map]
  unfold valleysL
  rw [List.pairwise_flatMap]
  constructor
  · intro f hf
    unfold valF
    rw [List.pairwise_map]
    exact ((span_sorted _ _).filter _).imp fun {a b} h => pr_le (p := (f, a)) (q := (f, b)) (.inr ⟨rfl, by show a ≤ b; omega⟩)
  · refine (span_sorted _ _).imp fun {a b} h x hx y hy => ?_
    unfold valF at hx hy
    obtain ⟨l, _, rfl⟩ := List.mem_map.mp hx
    obtain ⟨m, _, rfl⟩ := List.mem_map.mp hy
    exact pr_le (p := (a, l)) (q := (b, m)) (.inl h)
theorem short_sorted (xs : List Int) (w : Int) : ((shortL xs w).map pr).Pairwise (· ≤ ·) := by
  unfold shortL
  exact (valleys_sorted xs).sublist ((List.filter_sublist).map pr)

end Law

set_option Elab.async false
set_option linter.all false
set_option maxRecDepth 100000
set_option maxHeartbeats 0
namespace Law
open PySem PySem.Spec PyProof.Rows L2 Wl
def top (i : Nat) : Stmt := PySem.Challenge.pw_windowlows_k11_whole_lesser.main.body.getD i (.Pass ⟨0, 0, 0, 0⟩)
def gg : Gc := { fs := [("is_int" : Str), ("is_row" : Str), ("check_row" : Str), ("check_width" : Str), ("check_low" : Str), ("check_most" : Str), ("lows" : Str), ("low_row" : Str), ("lowest_origin" : Str), ("check_origin" : Str), ("least_origin" : Str), ("is_origin" : Str), ("ways" : Str), ("row_holds" : Str), ("after" : Str), ("count_origins" : Str), ("followed" : Str), ("rank_of_origin" : Str), ("fitting" : Str), ("are_enough" : Str), ("_law_start" : Str), ("_law_draw" : Str), ("_law_pick" : Str), ("_law_true" : Str), ("_law_row" : Str), ("law" : Str)], cs := ["WindowError", "BadRow", "BadWidth", "BadNumber", "", "NotFound"], gl := [("MOST_VALUES", (.int 12)), ("MOST_VALUE", (.int 9))], ex := false }
/-- is_int -/
def i0 : FI := { name := "is_int", N := ["value", "low", "high"], np := 3, body := (.cons (.ret (.bop true (.cons (.isi (.var 0) .int) (.cons (.not (.isi (.var 0) .bool)) (.cons (.chn .le .le (.var 1) (.var 0) (.var 2)) .nil))))) .nil) }
/-- is_row -/
def i1 : FI := { name := "is_row", N := ["value", "height"], np := 1, body := (.cons (.ite (.bop false (.cons (.not (.isi (.var 0) .list)) (.cons (.not (.chn .le .le (.cst (.int 1)) (.blt .len false (.cons (.var 0) .nil)) (.glb "MOST_VALUES" (.int 12)))) .nil))) (.cons (.ret (.cst (.bool false))) .nil) .nil) (.cons (.ret (.blt .all false (.cons (.lc false [1] (.seq 0 (.var 0)) [1] .nil (.call 0 0 (.cons (.var 1) (.cons (.cst (.int 0)) (.cons (.glb "MOST_VALUE" (.int 9)) .nil))))) .nil))) .nil)) }
/-- check_row -/
def i2 : FI := { name := "check_row", N := ["value"], np := 1, body := (.cons (.ite (.not (.call 0 1 (.cons (.var 0) .nil))) (.cons (.rse 1) .nil) .nil) .nil) }
/-- check_width -/
def i3 : FI := { name := "check_width", N := ["row", "width"], np := 2, body := (.cons (.ite (.not (.call 0 0 (.cons (.var 1) (.cons (.cst (.int 1)) (.cons (.blt .len false (.cons (.var 0) .nil)) .nil))))) (.cons (.rse 2) .nil) .nil) .nil) }
/-- check_low -/
def i4 : FI := { name := "check_low", N := ["row", "width"], np := 2, body := (.cons (.exp (.call 0 2 (.cons (.var 0) .nil))) (.cons (.ite (.not (.call 0 0 (.cons (.var 1) (.cons (.cst (.int 1)) (.cons (.bin .sub (.bin .add (.glb "MOST_VALUES" (.int 12)) (.cst (.int 1))) (.blt .len false (.cons (.var 0) .nil))) .nil))))) (.cons (.rse 2) .nil) .nil) .nil)) }
/-- check_most -/
def i5 : FI := { name := "check_most", N := ["value"], np := 1, body := (.cons (.ite (.not (.call 0 0 (.cons (.var 0) (.cons (.cst (.int 0)) (.cons (.glb "MOST_VALUE" (.int 9)) .nil))))) (.cons (.rse 3) .nil) .nil) .nil) }
/-- lows -/
def i6 : FI := { name := "lows", N := ["row", "width", "first"], np := 2, body := (.cons (.ret (.lc false [2] (.rng (.cons (.bin .add (.bin .sub (.blt .len false (.cons (.var 0) .nil)) (.var 1)) (.cst (.int 1))) .nil)) [2] .nil (.blt .min1 false (.cons (.sli (.var 0) (.cons (.var 2) .nil) (.cons (.bin .add (.var 2) (.var 1)) .nil)) .nil)))) .nil) }
/-- low_row -/
def i7 : FI := { name := "low_row", N := ["row", "width"], np := 2, body := (.cons (.exp (.call 0 2 (.cons (.var 0) .nil))) (.cons (.exp (.call 0 3 (.cons (.var 0) (.cons (.var 1) .nil)))) (.cons (.ret (.call 0 6 (.cons (.var 0) (.cons (.var 1) .nil)))) .nil))) }
/-- lowest_origin -/
def b8_0 : ISs := (.cons (.app (.var 2) (.blt .max1 false (.cons (.sli (.var 0) (.cons (.blt .max2 false (.cons (.cst (.int 0)) (.cons (.bin .add (.bin .sub (.var 3) (.var 1)) (.cst (.int 1))) .nil))) .nil) (.cons (.bin .add (.var 3) (.cst (.int 1))) .nil)) .nil))) .nil)
def i8 : FI := { name := "lowest_origin", N := ["row", "width", "found", "place"], np := 2, body := (.cons (.asg 2 (.lst true .nil)) (.cons (.for (.rng (.cons (.bin .sub (.bin .add (.blt .len false (.cons (.var 0) .nil)) (.var 1)) (.cst (.int 1))) .nil)) [3] b8_0) (.cons (.frz 2) (.cons (.ret (.var 2)) .nil)))) }
/-- check_origin -/
def i9 : FI := { name := "check_origin", N := ["row", "width"], np := 2, body := (.cons (.exp (.call 0 4 (.cons (.var 0) (.cons (.var 1) .nil)))) (.cons (.ite (.cmp .ne (.call 0 6 (.cons (.call 0 8 (.cons (.var 0) (.cons (.var 1) .nil))) (.cons (.var 1) .nil))) (.var 0)) (.cons (.rse 5) .nil) .nil) .nil)) }
/-- least_origin -/
def i10 : FI := { name := "least_origin", N := ["row", "width"], np := 2, body := (.cons (.exp (.call 0 9 (.cons (.var 0) (.cons (.var 1) .nil)))) (.cons (.ret (.call 0 8 (.cons (.var 0) (.cons (.var 1) .nil)))) .nil)) }
/-- is_origin -/
def i11 : FI := { name := "is_origin", N := ["other", "row", "width"], np := 3, body := (.cons (.exp (.call 0 2 (.cons (.var 0) .nil))) (.cons (.exp (.call 0 4 (.cons (.var 1) (.cons (.var 2) .nil)))) (.cons (.ret (.bop true (.cons (.cmp .eq (.blt .len false (.cons (.var 0) .nil)) (.bin .sub (.bin .add (.blt .len false (.cons (.var 1) .nil)) (.var 2)) (.cst (.int 1)))) (.cons (.cmp .eq (.call 0 6 (.cons (.var 0) (.cons (.var 2) .nil))) (.var 1)) .nil)))) .nil))) }
/-- ways -/
def i12 : FI := { name := "ways", N := ["row", "low", "width", "most", "place", "tight", "known", "found"], np := 7, body := (.cons (.ite (.cmp .eq (.var 4) (.blt .len false (.cons (.var 1) .nil))) (.cons (.ret (.cst (.int 1))) .nil) .nil) (.cons (.ite (.din true (.tup (.cons (.var 4) (.cons (.var 5) .nil))) (.var 6)) (.cons (.asg 7 (.cst (.int 0))) (.cons (.ite (.call 0 13 (.cons (.var 0) (.cons (.var 1) (.cons (.var 2) (.cons (.var 4) (.cons (.bin .add (.var 5) (.tup (.cons (.cst (.bool true)) .nil))) .nil)))))) (.cons (.aug .add 7 (.call 1 12 (.cons (.var 0) (.cons (.var 1) (.cons (.var 2) (.cons (.var 3) (.cons (.bin .add (.var 4) (.cst (.int 1))) (.cons (.call 0 14 (.cons (.var 5) (.cons (.cst (.bool true)) (.cons (.var 2) .nil)))) (.cons (.var 6) .nil))))))))) .nil) .nil) (.cons (.ite (.bop true (.cons (.cmp .gt (.var 3) (.sub (.var 1) (.var 4))) (.cons (.call 0 13 (.cons (.var 0) (.cons (.var 1) (.cons (.var 2) (.cons (.var 4) (.cons (.bin .add (.var 5) (.tup (.cons (.cst (.bool false)) .nil))) .nil)))))) .nil))) (.cons (.aug .add 7 (.bin .mul (.bin .sub (.var 3) (.sub (.var 1) (.var 4))) (.call 1 12 (.cons (.var 0) (.cons (.var 1) (.cons (.var 2) (.cons (.var 3) (.cons (.bin .add (.var 4) (.cst (.int 1))) (.cons (.call 0 14 (.cons (.var 5) (.cons (.cst (.bool false)) (.cons (.var 2) .nil)))) (.cons (.var 6) .nil)))))))))) .nil) .nil) (.cons (.setD (.var 6) (.tup (.cons (.var 4) (.cons (.var 5) .nil))) (.var 7)) .nil)))) .nil) (.cons (.ret (.dsb (.var 6) (.tup (.cons (.var 4) (.cons (.var 5) .nil))))) .nil))) }
/-- row_holds -/
def i13 : FI := { name := "row_holds", N := ["row", "low", "width", "place", "tight", "first", "marks", "k"], np := 5, body := (.cons (.asg 5 (.bin .add (.bin .sub (.var 3) (.var 2)) (.cst (.int 1)))) (.cons (.ite (.cmp .lt (.var 5) (.cst (.int 0))) (.cons (.ret (.cst (.bool true))) .nil) .nil) (.cons (.asg 6 (.sli (.var 4) (.cons (.neg (.var 2)) .nil) .nil)) (.cons (.ret (.blt .any false (.cons (.lc false [7] (.rng (.cons (.var 2) .nil)) [7] .nil (.bop true (.cons (.sub (.var 6) (.var 7)) (.cons (.cmp .eq (.sub (.var 1) (.bin .add (.var 5) (.var 7))) (.sub (.var 0) (.var 5))) .nil)))) .nil))) .nil)))) }
/-- after -/
def i14 : FI := { name := "after", N := ["tight", "mark", "width"], np := 3, body := (.cons (.ret (.ife (.cmp .gt (.var 2) (.cst (.int 1))) (.sli (.bin .add (.var 0) (.tup (.cons (.var 1) .nil))) (.cons (.bin .add (.neg (.var 2)) (.cst (.int 1))) .nil) .nil) (.tup .nil))) .nil) }
/-- count_origins -/
def i15 : FI := { name := "count_origins", N := ["row", "width", "most", "low"], np := 3, body := (.cons (.exp (.call 0 4 (.cons (.var 0) (.cons (.var 1) .nil)))) (.cons (.exp (.call 0 5 (.cons (.var 2) .nil))) (.cons (.asg 3 (.call 0 8 (.cons (.var 0) (.cons (.var 1) .nil)))) (.cons (.ite (.bop false (.cons (.cmp .ne (.call 0 6 (.cons (.var 3) (.cons (.var 1) .nil))) (.var 0)) (.cons (.cmp .gt (.blt .max1 false (.cons (.var 3) .nil)) (.var 2)) .nil))) (.cons (.ret (.cst (.int 0))) .nil) .nil) (.cons (.ret (.call 1 12 (.cons (.var 0) (.cons (.var 3) (.cons (.var 1) (.cons (.var 2) (.cons (.cst (.int 0)) (.cons (.tup .nil) (.cons (.dct true) .nil))))))))) .nil))))) }
/-- followed -/
def i16 : FI := { name := "followed", N := ["row", "low", "width", "most", "place", "tight", "value", "known", "mark"], np := 8, body := (.cons (.asg 8 (.cmp .eq (.var 6) (.sub (.var 1) (.var 4)))) (.cons (.ite (.not (.call 0 13 (.cons (.var 0) (.cons (.var 1) (.cons (.var 2) (.cons (.var 4) (.cons (.bin .add (.var 5) (.tup (.cons (.var 8) .nil))) .nil))))))) (.cons (.ret (.cst (.int 0))) .nil) .nil) (.cons (.ret (.call 1 12 (.cons (.var 0) (.cons (.var 1) (.cons (.var 2) (.cons (.var 3) (.cons (.bin .add (.var 4) (.cst (.int 1))) (.cons (.call 0 14 (.cons (.var 5) (.cons (.var 8) (.cons (.var 2) .nil)))) (.cons (.var 7) .nil))))))))) .nil))) }
/-- rank_of_origin -/
def b17_1 : ISs := (.cons (.aug .add 5 (.call 1 16 (.cons (.var 3) (.cons (.var 4) (.cons (.var 1) (.cons (.var 2) (.cons (.var 8) (.cons (.var 6) (.cons (.var 9) (.cons (.var 7) .nil)))))))))) .nil)
def b17_0 : ISs := (.cons (.for (.rng (.cons (.sub (.var 4) (.var 8)) (.cons (.sub (.var 0) (.var 8)) .nil))) [9] b17_1) (.cons (.asg 6 (.call 0 14 (.cons (.var 6) (.cons (.cmp .eq (.sub (.var 0) (.var 8)) (.sub (.var 4) (.var 8))) (.cons (.var 1) .nil))))) .nil))
def i17 : FI := { name := "rank_of_origin", N := ["other", "width", "most", "row", "low", "found", "tight", "known", "place", "value"], np := 3, body := (.cons (.exp (.call 0 2 (.cons (.var 0) .nil))) (.cons (.exp (.call 0 3 (.cons (.var 0) (.cons (.var 1) .nil)))) (.cons (.exp (.call 0 5 (.cons (.var 2) .nil))) (.cons (.ite (.cmp .gt (.blt .max1 false (.cons (.var 0) .nil)) (.var 2)) (.cons (.rse 1) .nil) .nil) (.cons (.asg 3 (.call 0 6 (.cons (.var 0) (.cons (.var 1) .nil)))) (.cons (.asg 4 (.call 0 8 (.cons (.var 3) (.cons (.var 1) .nil)))) (.cons (.asgP [5, 6, 7] (.cons (.cst (.int 0)) (.cons (.tup .nil) (.cons (.dct true) .nil)))) (.cons (.for (.rng (.cons (.blt .len false (.cons (.var 4) .nil)) .nil)) [8] b17_0) (.cons (.ret (.var 5)) .nil))))))))) }
/-- fitting -/
def i18 : FI := { name := "fitting", N := ["row", "low", "width", "first", "place"], np := 4, body := (.cons (.ret (.lc false [4] (.rng (.cons (.var 3) (.cons (.bin .add (.var 3) (.var 2)) .nil))) [4] (.cons (.cmp .eq (.sub (.var 1) (.var 4)) (.sub (.var 0) (.var 3))) .nil) (.var 4))) .nil) }
/-- are_enough -/
def b19_0 : ISs := (.cons (.ite (.not (.blt .any false (.cons (.lc false [6] (.seq 0 (.call 0 18 (.cons (.var 0) (.cons (.var 4) (.cons (.var 1) (.cons (.var 5) .nil)))))) [6] .nil (.cmp .inn (.var 6) (.var 2))) .nil))) (.cons (.ret (.cst (.bool false))) .nil) .nil) .nil)
def i19 : FI := { name := "are_enough", N := ["row", "width", "places", "size", "low", "first", "place"], np := 3, body := (.cons (.exp (.call 0 9 (.cons (.var 0) (.cons (.var 1) .nil)))) (.cons (.asg 3 (.bin .sub (.bin .add (.blt .len false (.cons (.var 0) .nil)) (.var 1)) (.cst (.int 1)))) (.cons (.ite (.bop false (.cons (.not (.isi (.var 2) .list)) (.cons (.not (.blt .all false (.cons (.lc false [6] (.seq 0 (.var 2)) [6] .nil (.call 0 0 (.cons (.var 6) (.cons (.cst (.int 0)) (.cons (.bin .sub (.var 3) (.cst (.int 1))) .nil))))) .nil))) .nil))) (.cons (.rse 3) .nil) .nil) (.cons (.asg 4 (.call 0 8 (.cons (.var 0) (.cons (.var 1) .nil)))) (.cons (.for (.rng (.cons (.blt .len false (.cons (.var 0) .nil)) .nil)) [5] b19_0) (.cons (.ret (.cst (.bool true))) .nil)))))) }
/-- _law_start -/
def i20 : FI := { name := "_law_start", N := ["_law_script"], np := 1, body := (.cons (.ret (.lst true (.cons (.ife (.cmp .ne (.var 0) (.lst false .nil)) (.blt .list true (.cons (.var 0) .nil)) (.lst true (.cons (.cst (.int 0)) .nil))) (.cons (.cst (.int 0)) .nil)))) .nil) }
/-- _law_draw -/
def i21 : FI := { name := "_law_draw", N := ["_law_draws", "_law_limit", "_law_numbers", "_law_at", "_law_cell", "_law_mixed"], np := 2, body := (.cons (.asg 2 (.sub (.var 0) (.cst (.int 0)))) (.cons (.setI (.var 0) (.cst (.int 1)) (.bin .add (.sub (.var 0) (.cst (.int 1))) (.cst (.int 1)))) (.cons (.asg 3 (.bin .mod (.sub (.var 0) (.cst (.int 1))) (.blt .len false (.cons (.var 2) .nil)))) (.cons (.asg 4 (.sub (.var 2) (.var 3))) (.cons (.ite (.cmp .ge (.var 4) (.cst (.int 1000000000000000000))) (.cons (.setI (.var 2) (.var 3) (.bin .fdv (.var 4) (.var 1))) (.cons (.ret (.bin .mod (.var 4) (.var 1))) .nil)) .nil) (.cons (.asg 5 (.bin .mod (.bin .add (.var 4) (.bin .mul (.cst (.int 104729)) (.sub (.var 0) (.cst (.int 1))))) (.cst (.int 4294967291)))) (.cons (.asg 5 (.bin .mod (.bin .pow (.var 5) (.cst (.int 5))) (.cst (.int 4294967279)))) (.cons (.ret (.bin .mod (.bin .fdv (.bin .mod (.bin .add (.bin .mul (.bin .fdv (.var 5) (.cst (.int 64))) (.cst (.int 69621))) (.var 5)) (.cst (.int 4294967231))) (.cst (.int 8))) (.var 1))) .nil)))))))) }
/-- _law_pick -/
def i22 : FI := { name := "_law_pick", N := ["_law_draws", "_law_choices"], np := 2, body := (.cons (.ret (.sub (.var 1) (.call 1 21 (.cons (.var 0) (.cons (.blt .len false (.cons (.var 1) .nil)) .nil))))) .nil) }
/-- _law_true -/
def i23 : FI := { name := "_law_true", N := ["_law_value", "_law_expected"], np := 2, body := (.cons (.ret (.bop true (.cons (.isi (.var 0) .bool) (.cons (.cmp .eq (.var 0) (.var 1)) .nil)))) .nil) }
/-- _law_row -/
def b24_0 : ISs := (.cons (.app (.var 3) (.ife (.cmp .eq (.call 1 21 (.cons (.var 0) (.cons (.cst (.int 3)) .nil))) (.cst (.int 0))) (.sub (.var 3) (.neg (.cst (.int 1)))) (.call 1 21 (.cons (.var 0) (.cons (.var 2) .nil))))) .nil)
def i24 : FI := { name := "_law_row", N := ["_law_draws", "_law_most", "_law_wide", "_law_found", "_law_k"], np := 2, body := (.cons (.asg 2 (.call 1 22 (.cons (.var 0) (.cons (.lst false (.cons (.cst (.int 2)) (.cons (.cst (.int 3)) (.cons (.cst (.int 10)) .nil)))) .nil)))) (.cons (.asg 3 (.lst true (.cons (.call 1 21 (.cons (.var 0) (.cons (.var 2) .nil))) .nil))) (.cons (.for (.rng (.cons (.call 1 21 (.cons (.var 0) (.cons (.var 1) .nil))) .nil)) [4] b24_0) (.cons (.frz 3) (.cons (.ret (.var 3)) .nil))))) }
/-- law -/
def b25_0 : ISs := (.cons (.app (.var 9) (.bin .add (.var 10) (.call 1 21 (.cons (.var 1) (.cons (.bin .add (.bin .sub (.var 11) (.var 10)) (.cst (.int 1))) .nil))))) .nil)
def i25 : FI := { name := "law", N := ["_law_script", "_law_draws", "_law_one", "_law_width", "_law_other", "_law_both", "_law_low", "_law_least", "_law_up", "_law_between", "_law_a", "_law_b", "_law_tight", "_law_most", "_law_first", "_law_last", "_law_value", "_law_place"], np := 1, body := (.cons (.asg 1 (.call 2 20 (.cons (.var 0) .nil))) (.cons (.asg 2 (.call 1 24 (.cons (.var 1) (.cons (.cst (.int 11)) .nil)))) (.cons (.asg 3 (.bin .add (.cst (.int 1)) (.call 1 21 (.cons (.var 1) (.cons (.blt .len false (.cons (.var 2) .nil)) .nil))))) (.cons (.asgC 4 false [16] (.seq 0 (.var 2)) [16] .nil (.blt .min2 false (.cons (.cst (.int 9)) (.cons (.blt .max2 false (.cons (.cst (.int 0)) (.cons (.bin .sub (.bin .add (.var 16) (.call 1 21 (.cons (.var 1) (.cons (.cst (.int 5)) .nil)))) (.cst (.int 2))) .nil))) .nil)))) (.cons (.asgC 5 false [10, 11] (.zip (.cons (.var 2) (.cons (.var 4) .nil))) [10, 11] .nil (.blt .min2 false (.cons (.var 10) (.cons (.var 11) .nil)))) (.cons (.ite (.cmp .ne (.call 0 7 (.cons (.var 5) (.cons (.var 3) .nil))) (.lc false [10, 11] (.zip (.cons (.call 0 7 (.cons (.var 2) (.cons (.var 3) .nil))) (.cons (.call 0 7 (.cons (.var 4) (.cons (.var 3) .nil))) .nil))) [10, 11] .nil (.blt .min2 false (.cons (.var 10) (.cons (.var 11) .nil))))) (.cons (.ret (.cst (.bool false))) .nil) .nil) (.cons (.asg 6 (.call 0 7 (.cons (.var 2) (.cons (.var 3) .nil)))) (.cons (.asg 7 (.call 0 10 (.cons (.var 6) (.cons (.var 3) .nil)))) (.cons (.asg 8 (.lc false [10, 11] (.zip (.cons (.var 4) (.cons (.var 7) .nil))) [10, 11] .nil (.blt .max2 false (.cons (.var 10) (.cons (.var 11) .nil))))) (.cons (.ite (.cmp .is (.call 0 11 (.cons (.var 8) (.cons (.var 6) (.cons (.var 3) .nil)))) (.cst (.bool true))) (.cons (.ite (.cmp .isn (.call 0 11 (.cons (.lc false [10, 11] (.zip (.cons (.var 8) (.cons (.var 2) .nil))) [10, 11] .nil (.blt .min2 false (.cons (.var 10) (.cons (.var 11) .nil)))) (.cons (.var 6) (.cons (.var 3) .nil)))) (.cst (.bool true))) (.cons (.ret (.cst (.bool false))) .nil) .nil) .nil) .nil) (.cons (.asg 9 (.lst true .nil)) (.cons (.for (.zip (.cons (.var 7) (.cons (.var 2) .nil))) [10, 11] b25_0) (.cons (.frz 9) (.cons (.ite (.bop false (.cons (.cmp .isn (.call 0 11 (.cons (.var 9) (.cons (.var 6) (.cons (.var 3) .nil)))) (.cst (.bool true))) (.cons (.cmp .isn (.call 0 11 (.cons (.var 7) (.cons (.var 6) (.cons (.var 3) .nil)))) (.cst (.bool true))) .nil))) (.cons (.ret (.cst (.bool false))) .nil) .nil) (.cons (.asgC 12 false [17] (.rng (.cons (.blt .len false (.cons (.var 2) .nil)) .nil)) [17] (.cons (.cmp .eq (.sub (.var 8) (.var 17)) (.sub (.var 7) (.var 17))) .nil) (.var 17)) (.cons (.ite (.not (.call 0 23 (.cons (.call 0 11 (.cons (.var 8) (.cons (.var 6) (.cons (.var 3) .nil)))) (.cons (.call 0 19 (.cons (.var 6) (.cons (.var 3) (.cons (.var 12) .nil)))) .nil)))) (.cons (.ret (.cst (.bool false))) .nil) .nil) (.cons (.asg 13 (.blt .max1 false (.cons (.var 2) .nil))) (.cons (.asgP [14, 15] (.cons (.call 0 17 (.cons (.var 7) (.cons (.var 3) (.cons (.var 13) .nil)))) (.cons (.call 0 17 (.cons (.var 2) (.cons (.var 3) (.cons (.var 13) .nil)))) .nil))) (.cons (.ret (.bop true (.cons (.cmp .eq (.var 14) (.cst (.int 0))) (.cons (.cmp .lt (.var 15) (.call 0 15 (.cons (.var 6) (.cons (.var 3) (.cons (.var 13) .nil))))) .nil)))) .nil))))))))))))))))))) }
def T : List FI := [i0, i1, i2, i3, i4, i5, i6, i7, i8, i9, i10, i11, i12, i13, i14, i15, i16, i17, i18, i19, i20, i21, i22, i23, i24, i25]
def st : List Stmt := [top 8, top 9, top 10, top 11, top 12, top 13, top 15, top 16, top 18, top 19, top 20, top 21, top 23, top 24, top 25, top 26, top 27, top 28, top 30, top 31, top 33, top 34, top 35, top 36, top 37, top 38]
abbrev sAt (f : Nat) : Stmt := st.getD f (.Pass ⟨0, 0, 0, 0⟩)
end Law

set_option maxHeartbeats 1000000
namespace Law
open PySem Wl L2
theorem draw_spec {k : Nat} {ns : List Int} {c L : Int} {R : MH} (hn : ns ≠ []) (h1 : 0 < L) (h2 : L < 1000) :
    ∃ r ns' c', 0 ≤ r ∧ r < L ∧ ns' ≠ [] ∧ run T (k + 1) 21 [.m 1, .d (.int L)] (Dw ns c R) = some (.val (.d (.int r)) (Dw ns' c' R)) := by
  have hl : 0 < ns.length := List.length_pos_iff.mpr hn
  have hl0 : (ns.length : Int) ≠ 0 := by omega
  have ha0 : 0 ≤ (c + 1).fmod (ns.length : Int) := Int.fmod_nonneg_of_pos _ (by omega)
  have ha1 : (c + 1).fmod (ns.length : Int) < (ns.length : Int) := Int.fmod_lt_of_pos _ (by omega)
  obtain ⟨cell, hc⟩ : ∃ v, atI ns ((c + 1).fmod (ns.length : Int)) = some v := by
    rw [atI_nat ha0]
    exact ⟨_, List.getElem?_eq_getElem (by omega)⟩
  have hx : ixN ns.length ((c + 1).fmod (ns.length : Int)) = some ((c + 1).fmod (ns.length : Int)).toNat := by
    unfold ixN
    rw [if_pos ha0, if_pos ha1]
  have hL0 : L ≠ 0 := by omega
  have hL1 : L ≠ 0 ∧ L.natAbs < 1073741824 := ⟨hL0, by omega⟩
  have z0 : atI [W.m 0, W.d (.int c)] 0 = some (.m 0) := rfl
  have z1 : ∀ c : Int, atI [W.m 0, W.d (.int c)] 1 = some (.d (.int c)) := fun _ => rfl
  have z2 : ixN 2 1 = some 1 := rfl
  have n1 : (4294967291 : Int) ≠ 0 := by decide
  have n2 : (4294967279 : Int) ≠ 0 := by decide
  have n3 : (4294967231 : Int) ≠ 0 := by decide
  have n4 : (64 : Int) ≠ 0 ∧ (64 : Int).natAbs < 1073741824 := by decide
  have n5 : (8 : Int) ≠ 0 ∧ (8 : Int).natAbs < 1073741824 := by decide
  have n6 : ∀ b : Int, ((-p64 < (104729 : Int) ∧ (104729 : Int) < p64) ∨ (-p64 < b ∧ b < p64)) = True := fun b => eq_true (.inl (by decide))
  have n7 : ∀ b : Int, ((-p64 < b ∧ b < p64) ∨ (-p64 < (69621 : Int) ∧ (69621 : Int) < p64)) = True := fun b => eq_true (.inr (by decide))
  have n8 : ∀ z : Int, (0 ≤ (5 : Int) ∧ (5 : Int) ≤ 1000000 ∧ (z.fmod 4294967291).natAbs < 18446744073709551616) = True := fun z => eq_true ⟨by decide, by decide, by
    have q1 := Int.fmod_nonneg_of_pos z (b := 4294967291) (by decide)
    have q2 := Int.fmod_lt_of_pos z (b := 4294967291) (by decide)
    omega⟩
  by_cases hb : (1000000000000000000 : Int) ≤ cell
  · refine ⟨cell.fmod L, ns.set ((c + 1).fmod (ns.length : Int)).toNat (cell.fdiv L), c + 1, Int.fmod_nonneg_of_pos _ h1, Int.fmod_lt_of_pos _ h1, by simpa using hn, ?_⟩
    rw [run_eq (fi := i21) rfl rfl]
    simp only [i21, exSs, exS, ev.eq_1, ev.eq_2, ev.eq_3, ev.eq_4, ev.eq_5, ev.eq_6, ev.eq_7, ev.eq_8, ev.eq_9, ev.eq_10, ev.eq_11, ev.eq_12, ev.eq_13, ev.eq_14, ev.eq_15, ev.eq_16, ev.eq_17, ev.eq_18, ev.eq_19, ev.eq_21, ev.eq_22, ev.eq_23, ev.eq_24, ev.eq_25, ev.eq_26, ev.eq_27, ev.eq_28, ev.eq_29, evs, evO, evB, evC, evi, obO, obL, obI, obP, obS, obLS, obIS, Wl.ret, retB, dat, dats, views, view, startW, fin, put, putAll, setAll, wipeW, List.map_cons, List.map_nil, List.length_cons, List.length_nil, List.cons_append, List.nil_append, Nat.reduceAdd, Nat.reduceSub, Nat.reduceEqDiff, List.replicate_succ, List.replicate_zero, List.getElem?_cons_zero, List.getElem?_cons_succ, List.set_cons_zero, List.set_cons_succ, Option.map_some, len_LI, len_list, add_int, sub_int, mod_int, fdv_int, mul_int, pow_int, lt_int, le_int, gt_int, ge_int, eq_int, ne_int, eq_LI, ne_LI, inn_LI, nin_LI, sli_LI, sub_LI, seq_LI, cmpW_d, is_bool, isn_bool, Bool.not_true, Bool.not_false, beq_self_eq_true, ite_true, if_true, Bool.false_eq_true, if_false, reduceIte, Dw_frz, frz_0, frz_VL, ne_bool, eq_bool, sorted_LI, seq_VL, eq_VL, ne_VL, pair_0, pair_1, len_VL, newL_f, onlyL_LI, mthO_index, max2_int, min2_int, Dw_get, Dw_set, Dw_app, Dw_len, isiW_d, isi_int_int, isi_int_bool, isi_int_list, isi_int_tuple, isi_int_str, isi_int_none, isi_int_LI, isi_int_VL, isi_bool_int, isi_bool_bool, isi_bool_list, isi_bool_tuple, isi_bool_str, isi_bool_none, isi_bool_LI, isi_bool_VL, isi_list_int, isi_list_bool, isi_list_list, isi_list_tuple, isi_list_str, isi_list_none, isi_list_LI, isi_list_VL, isi_tuple_int, isi_tuple_bool, isi_tuple_list, isi_tuple_tuple, isi_tuple_str, isi_tuple_none, isi_tuple_LI, isi_tuple_VL, isi_str_int, isi_str_bool, isi_str_list, isi_str_tuple, isi_str_str, isi_str_none, isi_str_LI, isi_str_VL, decide_true, decide_false, Bool.and_true, Bool.and_false, Bool.true_and, Bool.false_and, Bool.or_true, Bool.or_false, reduceCtorEq, Dw_eq, dats_ints, atI_mapW, z0, z1, z2, List.length_map, hc, hx, hl0, hL0, hL1, ne_eq, not_false_eq_true, decide_eq_true hb, not_true_eq_false, and_self, List.map_set]
  · have e : ∃ z : Int, run T (k + 1) 21 [.m 1, .d (.int L)] (Dw ns c R) = some (.val (.d (.int (z.fmod L))) (Dw ns (c + 1) R)) := by
      rw [run_eq (fi := i21) rfl rfl]
      simp only [i21, exSs, exS, ev.eq_1, ev.eq_2, ev.eq_3, ev.eq_4, ev.eq_5, ev.eq_6, ev.eq_7, ev.eq_8, ev.eq_9, ev.eq_10, ev.eq_11, ev.eq_12, ev.eq_13, ev.eq_14, ev.eq_15, ev.eq_16, ev.eq_17, ev.eq_18, ev.eq_19, ev.eq_21, ev.eq_22, ev.eq_23, ev.eq_24, ev.eq_25, ev.eq_26, ev.eq_27, ev.eq_28, ev.eq_29, evs, evO, evB, evC, evi, obO, obL, obI, obP, obS, obLS, obIS, Wl.ret, retB, dat, dats, views, view, startW, fin, put, putAll, setAll, wipeW, List.map_cons, List.map_nil, List.length_cons, List.length_nil, List.cons_append, List.nil_append, Nat.reduceAdd, Nat.reduceSub, Nat.reduceEqDiff, List.replicate_succ, List.replicate_zero, List.getElem?_cons_zero, List.getElem?_cons_succ, List.set_cons_zero, List.set_cons_succ, Option.map_some, len_LI, len_list, add_int, sub_int, mod_int, fdv_int, mul_int, pow_int, lt_int, le_int, gt_int, ge_int, eq_int, ne_int, eq_LI, ne_LI, inn_LI, nin_LI, sli_LI, sub_LI, seq_LI, cmpW_d, is_bool, isn_bool, Bool.not_true, Bool.not_false, beq_self_eq_true, ite_true, if_true, Bool.false_eq_true, if_false, reduceIte, Dw_frz, frz_0, frz_VL, ne_bool, eq_bool, sorted_LI, seq_VL, eq_VL, ne_VL, pair_0, pair_1, len_VL, newL_f, onlyL_LI, mthO_index, max2_int, min2_int, Dw_get, Dw_set, Dw_app, Dw_len, isiW_d, isi_int_int, isi_int_bool, isi_int_list, isi_int_tuple, isi_int_str, isi_int_none, isi_int_LI, isi_int_VL, isi_bool_int, isi_bool_bool, isi_bool_list, isi_bool_tuple, isi_bool_str, isi_bool_none, isi_bool_LI, isi_bool_VL, isi_list_int, isi_list_bool, isi_list_list, isi_list_tuple, isi_list_str, isi_list_none, isi_list_LI, isi_list_VL, isi_tuple_int, isi_tuple_bool, isi_tuple_list, isi_tuple_tuple, isi_tuple_str, isi_tuple_none, isi_tuple_LI, isi_tuple_VL, isi_str_int, isi_str_bool, isi_str_list, isi_str_tuple, isi_str_str, isi_str_none, isi_str_LI, isi_str_VL, decide_true, decide_false, Bool.and_true, Bool.and_false, Bool.true_and, Bool.false_and, Bool.or_true, Bool.or_false, reduceCtorEq, Dw_eq, dats_ints, atI_mapW, z0, z1, z2, List.length_map, hc, hx, hl0, hL0, hL1, ne_eq, not_false_eq_true, decide_eq_false hb, n1, n2, n3, n4, n5, n6, n7, n8, not_true_eq_false, and_self]
      exact ⟨_, rfl⟩
    obtain ⟨z, e⟩ := e
    exact ⟨z.fmod L, ns, c + 1, Int.fmod_nonneg_of_pos _ h1, Int.fmod_lt_of_pos _ h1, hn, e⟩
theorem draw_call {k : Nat} {ns : List Int} {c L : Int} {R : MH} (hn : ns ≠ []) (h1 : 0 < L) (h2 : L < 1000) (hR : R.all (objOk (R.length + 2)) = true) :
    ∃ r ns' c', 0 ≤ r ∧ r < L ∧ ns' ≠ [] ∧ callW (run T (k + 1)) 1 21 [.m 1, .d (.int L)] (Dw ns c R) = some (.val (.d (.int r)) (Dw ns' c' R)) := by
  obtain ⟨r, ns', c', q1, q2, q3, q4⟩ := draw_spec (k := k) (R := R) (c := c) hn h1 h2
  exact ⟨r, ns', c', q1, q2, q3, call_draw (R' := []) (by rw [List.append_nil]; exact q4) hR⟩
theorem start_spec {k : Nat} (ns : List Int) : ∃ ns', ns' ≠ [] ∧ callW (run T (k + 1)) 2 20 [.s ns] [] = some (.val (.m 1) (Dw ns' 0 [])) := by
  have e1 : cmpD .ne (PyData.list (ns.map .int)) (PyData.list []) = some (!decide (ns = [])) := ne_LI ns []
  have e2 : bltD .list [PyData.list (ns.map .int)] = some (.list (ns.map .int)) := rfl
  have c2 : (2 : Nat) ≤ cap := by decide
  have c1 : (1 : Nat) ≤ cap := by decide
  have c0 : (0 : Nat) ≤ cap := by decide
  show ∃ ns', ns' ≠ [] ∧ run T (k + 1) 20 [.s ns] [] = some (.val (.m 1) (Dw ns' 0 []))
  rw [run_eq (fi := i20) rfl rfl]
  by_cases hn : ns = []
  · refine ⟨[0], by simp, ?_⟩
    subst hn
    rfl
  · refine ⟨ns, hn, ?_⟩
    simp only [i20, exSs, exS, ev.eq_1, ev.eq_2, ev.eq_3, ev.eq_4, ev.eq_5, ev.eq_6, ev.eq_7, ev.eq_8, ev.eq_9, ev.eq_10, ev.eq_11, ev.eq_12, ev.eq_13, ev.eq_14, ev.eq_15, ev.eq_16, ev.eq_17, ev.eq_18, ev.eq_19, ev.eq_21, ev.eq_22, ev.eq_23, ev.eq_24, ev.eq_25, ev.eq_26, ev.eq_27, ev.eq_28, ev.eq_29, evs, evO, evB, evC, evi, obO, obL, obI, obP, obS, obLS, obIS, Wl.ret, retB, dat, dats, views, view, startW, fin, put, putAll, setAll, wipeW, List.map_cons, List.map_nil, List.length_cons, List.length_nil, List.cons_append, List.nil_append, Nat.reduceAdd, Nat.reduceSub, Nat.reduceEqDiff, List.replicate_succ, List.replicate_zero, List.getElem?_cons_zero, List.getElem?_cons_succ, List.set_cons_zero, List.set_cons_succ, Option.map_some, len_LI, len_list, add_int, sub_int, mod_int, fdv_int, mul_int, pow_int, lt_int, le_int, gt_int, ge_int, eq_int, ne_int, eq_LI, ne_LI, inn_LI, nin_LI, sli_LI, sub_LI, seq_LI, cmpW_d, is_bool, isn_bool, Bool.not_true, Bool.not_false, beq_self_eq_true, ite_true, if_true, Bool.false_eq_true, if_false, reduceIte, Dw_frz, frz_0, frz_VL, ne_bool, eq_bool, sorted_LI, seq_VL, eq_VL, ne_VL, pair_0, pair_1, len_VL, newL_f, onlyL_LI, mthO_index, max2_int, min2_int, Dw_get, Dw_set, Dw_app, Dw_len, isiW_d, isi_int_int, isi_int_bool, isi_int_list, isi_int_tuple, isi_int_str, isi_int_none, isi_int_LI, isi_int_VL, isi_bool_int, isi_bool_bool, isi_bool_list, isi_bool_tuple, isi_bool_str, isi_bool_none, isi_bool_LI, isi_bool_VL, isi_list_int, isi_list_bool, isi_list_list, isi_list_tuple, isi_list_str, isi_list_none, isi_list_LI, isi_list_VL, isi_tuple_int, isi_tuple_bool, isi_tuple_list, isi_tuple_tuple, isi_tuple_str, isi_tuple_none, isi_tuple_LI, isi_tuple_VL, isi_str_int, isi_str_bool, isi_str_list, isi_str_tuple, isi_str_str, isi_str_none, isi_str_LI, isi_str_VL, decide_true, decide_false, Bool.and_true, Bool.and_false, Bool.true_and, Bool.false_and, Bool.or_true, Bool.or_false, reduceCtorEq, cmpW, e1, e2, decide_eq_false hn, c0, c2, newL, isMB, List.map_map]
    rfl
theorem pick_call {k : Nat} {ns : List Int} {c : Int} {R : MH} {xs : List Int} (hn : ns ≠ []) (hx : xs ≠ []) (hl : xs.length < 1000) (hR : R.all (objOk (R.length + 2)) = true) :
    ∃ r ns' c', r ∈ xs ∧ ns' ≠ [] ∧ callW (run T (k + 2)) 1 22 [.m 1, .d (LI xs)] (Dw ns c R) = some (.val (.d (.int r)) (Dw ns' c' R)) := by
  obtain ⟨r, ns', c', q1, q2, q3, q4⟩ := draw_call (k := k) (R := R) (c := c) (L := xs.length) hn (by have := List.length_pos_iff.mpr hx; omega) (by omega) hR
  have hr : r.toNat < xs.length := by omega
  have e : atI xs r = some xs[r.toNat] := by
    rw [atI_nat q1]
    exact List.getElem?_eq_getElem hr
  refine ⟨xs[r.toNat], ns', c', List.getElem_mem hr, q3, call_draw (R' := []) ?_ hR⟩
  rw [List.append_nil, run_eq (fi := i22) rfl rfl]
  simp only [i22, exSs, exS, ev.eq_1, ev.eq_2, ev.eq_3, ev.eq_4, ev.eq_5, ev.eq_6, ev.eq_7, ev.eq_8, ev.eq_9, ev.eq_10, ev.eq_11, ev.eq_12, ev.eq_13, ev.eq_14, ev.eq_15, ev.eq_16, ev.eq_17, ev.eq_18, ev.eq_19, ev.eq_21, ev.eq_22, ev.eq_23, ev.eq_24, ev.eq_25, ev.eq_26, ev.eq_27, ev.eq_28, ev.eq_29, evs, evO, evB, evC, evi, obO, obL, obI, obP, obS, obLS, obIS, Wl.ret, retB, dat, dats, views, view, startW, fin, put, putAll, setAll, wipeW, List.map_cons, List.map_nil, List.length_cons, List.length_nil, List.cons_append, List.nil_append, Nat.reduceAdd, Nat.reduceSub, Nat.reduceEqDiff, List.replicate_succ, List.replicate_zero, List.getElem?_cons_zero, List.getElem?_cons_succ, List.set_cons_zero, List.set_cons_succ, Option.map_some, len_LI, len_list, add_int, sub_int, mod_int, fdv_int, mul_int, pow_int, lt_int, le_int, gt_int, ge_int, eq_int, ne_int, eq_LI, ne_LI, inn_LI, nin_LI, sli_LI, sub_LI, seq_LI, cmpW_d, is_bool, isn_bool, Bool.not_true, Bool.not_false, beq_self_eq_true, ite_true, if_true, Bool.false_eq_true, if_false, reduceIte, Dw_frz, frz_0, frz_VL, ne_bool, eq_bool, sorted_LI, seq_VL, eq_VL, ne_VL, pair_0, pair_1, len_VL, newL_f, onlyL_LI, mthO_index, max2_int, min2_int, Dw_get, Dw_set, Dw_app, Dw_len, isiW_d, isi_int_int, isi_int_bool, isi_int_list, isi_int_tuple, isi_int_str, isi_int_none, isi_int_LI, isi_int_VL, isi_bool_int, isi_bool_bool, isi_bool_list, isi_bool_tuple, isi_bool_str, isi_bool_none, isi_bool_LI, isi_bool_VL, isi_list_int, isi_list_bool, isi_list_list, isi_list_tuple, isi_list_str, isi_list_none, isi_list_LI, isi_list_VL, isi_tuple_int, isi_tuple_bool, isi_tuple_list, isi_tuple_tuple, isi_tuple_str, isi_tuple_none, isi_tuple_LI, isi_tuple_VL, isi_str_int, isi_str_bool, isi_str_list, isi_str_tuple, isi_str_str, isi_str_none, isi_str_LI, isi_str_VL, decide_true, decide_false, Bool.and_true, Bool.and_false, Bool.true_and, Bool.false_and, Bool.or_true, Bool.or_false, reduceCtorEq, q4, e]
theorem rowR_call {k : Nat} {ns : List Int} {c L : Int} {R : MH} (hn : ns ≠ []) (h1 : 0 < L) (h2 : L ≤ 12) (hR0 : R.all (objOk (R.length + 2)) = true) :
    ∃ xs ns' c', okRow xs ∧ xs.length ≤ L.toNat ∧ ns' ≠ [] ∧ callW (run T (k + 3)) 1 24 [.m 1, .d (.int L)] (Dw ns c R) = some (.val (.d (LI xs)) (Dw ns' c' R)) := by
  have cc : PyData.list [PyData.int 2, PyData.int 3, PyData.int 10] = LI [2, 3, 10] := rfl
  have c3 : (3 : Nat) ≤ cap := by decide
  have c1 : (1 : Nat) ≤ cap := by decide
  obtain ⟨wd, n1, c1', p1, p2, p3⟩ := pick_call (k := k) (R := R) (c := c) (xs := [2, 3, 10]) hn (by simp) (by decide) hR0
  have pw : 0 < wd ∧ wd ≤ 10 := by
    simp only [List.mem_cons, List.not_mem_nil, or_false] at p1
    omega
  obtain ⟨r0, n2, c2', d1, d2, d3, d4⟩ := draw_call (k := k + 1) (R := R) (c := c1') (L := wd) p2 (by omega) (by omega) hR0
  have hR : ∀ xs : List Int, (R ++ [.lst (xs.map fun i => .d (.int i))] : MH).all (objOk ((R ++ [.lst (xs.map fun i => .d (.int i))] : MH).length + 2)) = true := fun xs => okSnoc hR0
  obtain ⟨m, n3, c3', e1, e2, e3, e4⟩ := draw_call (k := k + 1) (R := R ++ [.lst ([r0].map fun i => .d (.int i))]) (c := c2') (L := L) d3 h1 (by omega) (hR [r0])
  have e4' := e4
  simp only [List.map_cons, List.map_nil] at e4'
  have hm : -100000 ≤ m ∧ m ≤ 100000 := by omega
  let I : Nat → Sl → MH → Prop := fun n σ M => ∃ (v : Option W) (xs ns : List Int) (c : Int), σ = [some (.m 1), some (.d (.int L)), some (.d (.int wd)), some (.m (R.length + 2)), v] ∧ M = Dw ns c (R ++ [.lst (xs.map fun i => .d (.int i))]) ∧ ns ≠ [] ∧ xs ≠ [] ∧ xs.length = n ∧ ∀ x ∈ xs, 0 ≤ x ∧ x ≤ 9
  have hI : I 1 [some (.m 1), some (.d (.int L)), some (.d (.int wd)), some (.m (R.length + 2)), none] (Dw n3 c3' (R ++ [.lst ([r0].map fun i => .d (.int i))])) := ⟨none, [r0], n3, c3', rfl, rfl, e3, by simp, rfl, fun x hx => by
    have : x = r0 := by simpa using hx
    omega⟩
  obtain ⟨σ4, M4, f1, v, xs, n4, c4, rfl, rfl, g1, g2, g3, g4⟩ := forF_cnt (step := fun x σ1 N => match put [4] x σ1 with
      | some σ2 => exSs (run T (k + 2)) (.cons (.app (.var 3) (.ife (.cmp .eq (.call 1 21 (.cons (.var 0) (.cons (.cst (.int 3)) .nil))) (.cst (.int 0))) (.sub (.var 3) (.neg (.cst (.int 1)))) (.call 1 21 (.cons (.var 0) (.cons (.var 2) .nil))))) .nil) σ2 N
      | none => none) I (N := 1 + m.toNat) (xs := (upto m.toNat).map .int) (n := 1) (by rw [List.length_map, upto_len]) hI fun x hx n σ M hlt hi => by
    obtain ⟨v, xs, ns, c, rfl, rfl, i1, i2, i3, i4⟩ := hi
    have last : atI (xs.map fun i => W.d (.int i)) (-1) = some (.d (.int (xs.getLast i2))) := by
      rw [atI_mapW, atI_last i2, List.getLast?_eq_getLast i2]
      rfl
    obtain ⟨r, n5, c5, w1, w2, w3, w4⟩ := draw_call (k := k + 1) (R := R ++ [.lst (xs.map fun i => .d (.int i))]) (c := c) (L := 3) i1 (by decide) (by decide) (hR xs)
    have cp : xs.length < cap := Nat.lt_of_lt_of_le (show xs.length < 100 by omega) (by decide)
    have lastm : 0 ≤ xs.getLast i2 ∧ xs.getLast i2 ≤ 9 := i4 _ (List.getLast_mem i2)
    obtain ⟨i, hi, rfl⟩ := List.mem_map.mp hx
    have fin_ : ∀ (e : Int) (n6 : List Int) (c6 : Int), n6 ≠ [] → 0 ≤ e ∧ e ≤ 9 → ∃ σ' M', some (SO.nx [some (W.m 1), some (.d (.int L)), some (.d (.int wd)), some (.m (R.length + 2)), some (.d (.int i))] (Dw n6 c6 (R ++ [.lst (xs.map (fun i => W.d (.int i)) ++ [.d (.int e)])]))) = some (SO.nx σ' M') ∧ I (n + 1) σ' M' := fun e n6 c6 h6 he =>
      ⟨_, _, rfl, some (.d (.int i)), xs ++ [e], n6, c6, rfl, by rw [List.map_append]; rfl, h6, by simp, by rw [List.length_append, i3]; rfl, fun y hy => by
        rcases List.mem_append.mp hy with z | z
        · exact i4 y z
        · have : y = e := by simpa using z
          rw [this]
          exact he⟩
    by_cases hr : r = 0
    · simp only [exSs, exS, ev.eq_1, ev.eq_2, ev.eq_3, ev.eq_4, ev.eq_5, ev.eq_6, ev.eq_7, ev.eq_8, ev.eq_9, ev.eq_10, ev.eq_11, ev.eq_12, ev.eq_13, ev.eq_14, ev.eq_15, ev.eq_16, ev.eq_17, ev.eq_18, ev.eq_19, ev.eq_21, ev.eq_22, ev.eq_23, ev.eq_24, ev.eq_25, ev.eq_26, ev.eq_27, ev.eq_28, ev.eq_29, evs, evO, evB, evC, evi, obO, obL, obI, obP, obS, obLS, obIS, Wl.ret, retB, dat, dats, views, view, startW, fin, put, putAll, setAll, wipeW, List.map_cons, List.map_nil, List.length_cons, List.length_nil, List.cons_append, List.nil_append, Nat.reduceAdd, Nat.reduceSub, Nat.reduceEqDiff, List.replicate_succ, List.replicate_zero, List.getElem?_cons_zero, List.getElem?_cons_succ, List.set_cons_zero, List.set_cons_succ, Option.map_some, len_LI, len_list, add_int, sub_int, mod_int, fdv_int, mul_int, pow_int, lt_int, le_int, gt_int, ge_int, eq_int, ne_int, eq_LI, ne_LI, inn_LI, nin_LI, sli_LI, sub_LI, seq_LI, cmpW_d, is_bool, isn_bool, Bool.not_true, Bool.not_false, beq_self_eq_true, ite_true, if_true, Bool.false_eq_true, if_false, reduceIte, Dw_frz, frz_0, frz_VL, ne_bool, eq_bool, sorted_LI, seq_VL, eq_VL, ne_VL, pair_0, pair_1, len_VL, newL_f, onlyL_LI, mthO_index, max2_int, min2_int, Dw_get, Dw_set, Dw_app, Dw_len, isiW_d, isi_int_int, isi_int_bool, isi_int_list, isi_int_tuple, isi_int_str, isi_int_none, isi_int_LI, isi_int_VL, isi_bool_int, isi_bool_bool, isi_bool_list, isi_bool_tuple, isi_bool_str, isi_bool_none, isi_bool_LI, isi_bool_VL, isi_list_int, isi_list_bool, isi_list_list, isi_list_tuple, isi_list_str, isi_list_none, isi_list_LI, isi_list_VL, isi_tuple_int, isi_tuple_bool, isi_tuple_list, isi_tuple_tuple, isi_tuple_str, isi_tuple_none, isi_tuple_LI, isi_tuple_VL, isi_str_int, isi_str_bool, isi_str_list, isi_str_tuple, isi_str_str, isi_str_none, isi_str_LI, isi_str_VL, decide_true, decide_false, Bool.and_true, Bool.and_false, Bool.true_and, Bool.false_and, Bool.or_true, Bool.or_false, reduceCtorEq, w4, decide_eq_true hr, last, List.length_map, cp, gt_last, st_last]
      exact fin_ _ n5 c5 w3 lastm
    · obtain ⟨r', n6, c6, y1, y2, y3, y4⟩ := draw_call (k := k + 1) (R := R ++ [.lst (xs.map fun i => .d (.int i))]) (c := c5) (L := wd) w3 (by omega) (by omega) (hR xs)
      simp only [exSs, exS, ev.eq_1, ev.eq_2, ev.eq_3, ev.eq_4, ev.eq_5, ev.eq_6, ev.eq_7, ev.eq_8, ev.eq_9, ev.eq_10, ev.eq_11, ev.eq_12, ev.eq_13, ev.eq_14, ev.eq_15, ev.eq_16, ev.eq_17, ev.eq_18, ev.eq_19, ev.eq_21, ev.eq_22, ev.eq_23, ev.eq_24, ev.eq_25, ev.eq_26, ev.eq_27, ev.eq_28, ev.eq_29, evs, evO, evB, evC, evi, obO, obL, obI, obP, obS, obLS, obIS, Wl.ret, retB, dat, dats, views, view, startW, fin, put, putAll, setAll, wipeW, List.map_cons, List.map_nil, List.length_cons, List.length_nil, List.cons_append, List.nil_append, Nat.reduceAdd, Nat.reduceSub, Nat.reduceEqDiff, List.replicate_succ, List.replicate_zero, List.getElem?_cons_zero, List.getElem?_cons_succ, List.set_cons_zero, List.set_cons_succ, Option.map_some, len_LI, len_list, add_int, sub_int, mod_int, fdv_int, mul_int, pow_int, lt_int, le_int, gt_int, ge_int, eq_int, ne_int, eq_LI, ne_LI, inn_LI, nin_LI, sli_LI, sub_LI, seq_LI, cmpW_d, is_bool, isn_bool, Bool.not_true, Bool.not_false, beq_self_eq_true, ite_true, if_true, Bool.false_eq_true, if_false, reduceIte, Dw_frz, frz_0, frz_VL, ne_bool, eq_bool, sorted_LI, seq_VL, eq_VL, ne_VL, pair_0, pair_1, len_VL, newL_f, onlyL_LI, mthO_index, max2_int, min2_int, Dw_get, Dw_set, Dw_app, Dw_len, isiW_d, isi_int_int, isi_int_bool, isi_int_list, isi_int_tuple, isi_int_str, isi_int_none, isi_int_LI, isi_int_VL, isi_bool_int, isi_bool_bool, isi_bool_list, isi_bool_tuple, isi_bool_str, isi_bool_none, isi_bool_LI, isi_bool_VL, isi_list_int, isi_list_bool, isi_list_list, isi_list_tuple, isi_list_str, isi_list_none, isi_list_LI, isi_list_VL, isi_tuple_int, isi_tuple_bool, isi_tuple_list, isi_tuple_tuple, isi_tuple_str, isi_tuple_none, isi_tuple_LI, isi_tuple_VL, isi_str_int, isi_str_bool, isi_str_list, isi_str_tuple, isi_str_str, isi_str_none, isi_str_LI, isi_str_VL, decide_true, decide_false, Bool.and_true, Bool.and_false, Bool.true_and, Bool.false_and, Bool.or_true, Bool.or_false, reduceCtorEq, w4, decide_eq_false hr, y4, List.length_map, cp, gt_last, st_last]
      exact fin_ _ n6 c6 y3 ⟨y1, by omega⟩
  refine ⟨xs, n4, c4, ⟨g2, by omega, g4⟩, by omega, g1, call_draw (R' := [.dead]) ?_ hR0⟩
  refine run_ret (fi := i24) rfl rfl ?_
  simp only [i24, startW, List.map_cons, List.map_nil, List.length_cons, List.length_nil, Nat.reduceAdd, Nat.reduceSub, List.replicate_succ, List.replicate_zero, List.cons_append, List.nil_append]
  apply Eq.trans
  · apply exSs_cons
    (simp only [exSs, exS, ev.eq_1, ev.eq_2, ev.eq_3, ev.eq_4, ev.eq_5, ev.eq_6, ev.eq_7, ev.eq_8, ev.eq_9, ev.eq_10, ev.eq_11, ev.eq_12, ev.eq_13, ev.eq_14, ev.eq_15, ev.eq_16, ev.eq_17, ev.eq_18, ev.eq_19, ev.eq_21, ev.eq_22, ev.eq_23, ev.eq_24, ev.eq_25, ev.eq_26, ev.eq_27, ev.eq_28, ev.eq_29, evs, evO, evB, evC, evi, obO, obL, obI, obP, obS, obLS, obIS, Wl.ret, retB, dat, dats, views, view, startW, fin, put, putAll, setAll, wipeW, List.map_cons, List.map_nil, List.length_cons, List.length_nil, List.cons_append, List.nil_append, Nat.reduceAdd, Nat.reduceSub, Nat.reduceEqDiff, List.replicate_succ, List.replicate_zero, List.getElem?_cons_zero, List.getElem?_cons_succ, List.set_cons_zero, List.set_cons_succ, Option.map_some, len_LI, len_list, add_int, sub_int, mod_int, fdv_int, mul_int, pow_int, lt_int, le_int, gt_int, ge_int, eq_int, ne_int, eq_LI, ne_LI, inn_LI, nin_LI, sli_LI, sub_LI, seq_LI, cmpW_d, is_bool, isn_bool, Bool.not_true, Bool.not_false, beq_self_eq_true, ite_true, if_true, Bool.false_eq_true, if_false, reduceIte, Dw_frz, frz_0, frz_VL, ne_bool, eq_bool, sorted_LI, seq_VL, eq_VL, ne_VL, pair_0, pair_1, len_VL, newL_f, onlyL_LI, mthO_index, max2_int, min2_int, Dw_get, Dw_set, Dw_app, Dw_len, isiW_d, isi_int_int, isi_int_bool, isi_int_list, isi_int_tuple, isi_int_str, isi_int_none, isi_int_LI, isi_int_VL, isi_bool_int, isi_bool_bool, isi_bool_list, isi_bool_tuple, isi_bool_str, isi_bool_none, isi_bool_LI, isi_bool_VL, isi_list_int, isi_list_bool, isi_list_list, isi_list_tuple, isi_list_str, isi_list_none, isi_list_LI, isi_list_VL, isi_tuple_int, isi_tuple_bool, isi_tuple_list, isi_tuple_tuple, isi_tuple_str, isi_tuple_none, isi_tuple_LI, isi_tuple_VL, isi_str_int, isi_str_bool, isi_str_list, isi_str_tuple, isi_str_str, isi_str_none, isi_str_LI, isi_str_VL, decide_true, decide_false, Bool.and_true, Bool.and_false, Bool.true_and, Bool.false_and, Bool.or_true, Bool.or_false, reduceCtorEq, cc, c3, p3]) <;> rfl
  apply Eq.trans
  · apply exSs_cons
    (simp only [exSs, exS, ev.eq_1, ev.eq_2, ev.eq_3, ev.eq_4, ev.eq_5, ev.eq_6, ev.eq_7, ev.eq_8, ev.eq_9, ev.eq_10, ev.eq_11, ev.eq_12, ev.eq_13, ev.eq_14, ev.eq_15, ev.eq_16, ev.eq_17, ev.eq_18, ev.eq_19, ev.eq_21, ev.eq_22, ev.eq_23, ev.eq_24, ev.eq_25, ev.eq_26, ev.eq_27, ev.eq_28, ev.eq_29, evs, evO, evB, evC, evi, obO, obL, obI, obP, obS, obLS, obIS, Wl.ret, retB, dat, dats, views, view, startW, fin, put, putAll, setAll, wipeW, List.map_cons, List.map_nil, List.length_cons, List.length_nil, List.cons_append, List.nil_append, Nat.reduceAdd, Nat.reduceSub, Nat.reduceEqDiff, List.replicate_succ, List.replicate_zero, List.getElem?_cons_zero, List.getElem?_cons_succ, List.set_cons_zero, List.set_cons_succ, Option.map_some, len_LI, len_list, add_int, sub_int, mod_int, fdv_int, mul_int, pow_int, lt_int, le_int, gt_int, ge_int, eq_int, ne_int, eq_LI, ne_LI, inn_LI, nin_LI, sli_LI, sub_LI, seq_LI, cmpW_d, is_bool, isn_bool, Bool.not_true, Bool.not_false, beq_self_eq_true, ite_true, if_true, Bool.false_eq_true, if_false, reduceIte, Dw_frz, frz_0, frz_VL, ne_bool, eq_bool, sorted_LI, seq_VL, eq_VL, ne_VL, pair_0, pair_1, len_VL, newL_f, onlyL_LI, mthO_index, max2_int, min2_int, Dw_get, Dw_set, Dw_app, Dw_len, isiW_d, isi_int_int, isi_int_bool, isi_int_list, isi_int_tuple, isi_int_str, isi_int_none, isi_int_LI, isi_int_VL, isi_bool_int, isi_bool_bool, isi_bool_list, isi_bool_tuple, isi_bool_str, isi_bool_none, isi_bool_LI, isi_bool_VL, isi_list_int, isi_list_bool, isi_list_list, isi_list_tuple, isi_list_str, isi_list_none, isi_list_LI, isi_list_VL, isi_tuple_int, isi_tuple_bool, isi_tuple_list, isi_tuple_tuple, isi_tuple_str, isi_tuple_none, isi_tuple_LI, isi_tuple_VL, isi_str_int, isi_str_bool, isi_str_list, isi_str_tuple, isi_str_str, isi_str_none, isi_str_LI, isi_str_VL, decide_true, decide_false, Bool.and_true, Bool.and_false, Bool.true_and, Bool.false_and, Bool.or_true, Bool.or_false, reduceCtorEq, c1, d4]) <;> rfl
  apply Eq.trans
  · apply exSs_cons
    apply exS_for
    · (simp only [exSs, exS, ev.eq_1, ev.eq_2, ev.eq_3, ev.eq_4, ev.eq_5, ev.eq_6, ev.eq_7, ev.eq_8, ev.eq_9, ev.eq_10, ev.eq_11, ev.eq_12, ev.eq_13, ev.eq_14, ev.eq_15, ev.eq_16, ev.eq_17, ev.eq_18, ev.eq_19, ev.eq_21, ev.eq_22, ev.eq_23, ev.eq_24, ev.eq_25, ev.eq_26, ev.eq_27, ev.eq_28, ev.eq_29, evs, evO, evB, evC, evi, obO, obL, obI, obP, obS, obLS, obIS, Wl.ret, retB, dat, dats, views, view, startW, fin, put, putAll, setAll, wipeW, List.map_cons, List.map_nil, List.length_cons, List.length_nil, List.cons_append, List.nil_append, Nat.reduceAdd, Nat.reduceSub, Nat.reduceEqDiff, List.replicate_succ, List.replicate_zero, List.getElem?_cons_zero, List.getElem?_cons_succ, List.set_cons_zero, List.set_cons_succ, Option.map_some, len_LI, len_list, add_int, sub_int, mod_int, fdv_int, mul_int, pow_int, lt_int, le_int, gt_int, ge_int, eq_int, ne_int, eq_LI, ne_LI, inn_LI, nin_LI, sli_LI, sub_LI, seq_LI, cmpW_d, is_bool, isn_bool, Bool.not_true, Bool.not_false, beq_self_eq_true, ite_true, if_true, Bool.false_eq_true, if_false, reduceIte, Dw_frz, frz_0, frz_VL, ne_bool, eq_bool, sorted_LI, seq_VL, eq_VL, ne_VL, pair_0, pair_1, len_VL, newL_f, onlyL_LI, mthO_index, max2_int, min2_int, Dw_get, Dw_set, Dw_app, Dw_len, isiW_d, isi_int_int, isi_int_bool, isi_int_list, isi_int_tuple, isi_int_str, isi_int_none, isi_int_LI, isi_int_VL, isi_bool_int, isi_bool_bool, isi_bool_list, isi_bool_tuple, isi_bool_str, isi_bool_none, isi_bool_LI, isi_bool_VL, isi_list_int, isi_list_bool, isi_list_list, isi_list_tuple, isi_list_str, isi_list_none, isi_list_LI, isi_list_VL, isi_tuple_int, isi_tuple_bool, isi_tuple_list, isi_tuple_tuple, isi_tuple_str, isi_tuple_none, isi_tuple_LI, isi_tuple_VL, isi_str_int, isi_str_bool, isi_str_list, isi_str_tuple, isi_str_str, isi_str_none, isi_str_LI, isi_str_VL, decide_true, decide_false, Bool.and_true, Bool.and_false, Bool.true_and, Bool.false_and, Bool.or_true, Bool.or_false, reduceCtorEq, e4', rng1 hm]) <;> rfl
    · exact f1
  apply Eq.trans
  · apply exSs_cons
    (simp only [exSs, exS, ev.eq_1, ev.eq_2, ev.eq_3, ev.eq_4, ev.eq_5, ev.eq_6, ev.eq_7, ev.eq_8, ev.eq_9, ev.eq_10, ev.eq_11, ev.eq_12, ev.eq_13, ev.eq_14, ev.eq_15, ev.eq_16, ev.eq_17, ev.eq_18, ev.eq_19, ev.eq_21, ev.eq_22, ev.eq_23, ev.eq_24, ev.eq_25, ev.eq_26, ev.eq_27, ev.eq_28, ev.eq_29, evs, evO, evB, evC, evi, obO, obL, obI, obP, obS, obLS, obIS, Wl.ret, retB, dat, dats, views, view, startW, fin, put, putAll, setAll, wipeW, List.map_cons, List.map_nil, List.length_cons, List.length_nil, List.cons_append, List.nil_append, Nat.reduceAdd, Nat.reduceSub, Nat.reduceEqDiff, List.replicate_succ, List.replicate_zero, List.getElem?_cons_zero, List.getElem?_cons_succ, List.set_cons_zero, List.set_cons_succ, Option.map_some, len_LI, len_list, add_int, sub_int, mod_int, fdv_int, mul_int, pow_int, lt_int, le_int, gt_int, ge_int, eq_int, ne_int, eq_LI, ne_LI, inn_LI, nin_LI, sli_LI, sub_LI, seq_LI, cmpW_d, is_bool, isn_bool, Bool.not_true, Bool.not_false, beq_self_eq_true, ite_true, if_true, Bool.false_eq_true, if_false, reduceIte, Dw_frz, frz_0, frz_VL, ne_bool, eq_bool, sorted_LI, seq_VL, eq_VL, ne_VL, pair_0, pair_1, len_VL, newL_f, onlyL_LI, mthO_index, max2_int, min2_int, Dw_get, Dw_set, Dw_app, Dw_len, isiW_d, isi_int_int, isi_int_bool, isi_int_list, isi_int_tuple, isi_int_str, isi_int_none, isi_int_LI, isi_int_VL, isi_bool_int, isi_bool_bool, isi_bool_list, isi_bool_tuple, isi_bool_str, isi_bool_none, isi_bool_LI, isi_bool_VL, isi_list_int, isi_list_bool, isi_list_list, isi_list_tuple, isi_list_str, isi_list_none, isi_list_LI, isi_list_VL, isi_tuple_int, isi_tuple_bool, isi_tuple_list, isi_tuple_tuple, isi_tuple_str, isi_tuple_none, isi_tuple_LI, isi_tuple_VL, isi_str_int, isi_str_bool, isi_str_list, isi_str_tuple, isi_str_str, isi_str_none, isi_str_LI, isi_str_VL, decide_true, decide_false, Bool.and_true, Bool.and_false, Bool.true_and, Bool.false_and, Bool.or_true, Bool.or_false, reduceCtorEq, frz_last]) <;> rfl
  simp only [exSs, exS, ev.eq_1, ev.eq_2, ev.eq_3, ev.eq_4, ev.eq_5, ev.eq_6, ev.eq_7, ev.eq_8, ev.eq_9, ev.eq_10, ev.eq_11, ev.eq_12, ev.eq_13, ev.eq_14, ev.eq_15, ev.eq_16, ev.eq_17, ev.eq_18, ev.eq_19, ev.eq_21, ev.eq_22, ev.eq_23, ev.eq_24, ev.eq_25, ev.eq_26, ev.eq_27, ev.eq_28, ev.eq_29, evs, evO, evB, evC, evi, obO, obL, obI, obP, obS, obLS, obIS, Wl.ret, retB, dat, dats, views, view, startW, fin, put, putAll, setAll, wipeW, List.map_cons, List.map_nil, List.length_cons, List.length_nil, List.cons_append, List.nil_append, Nat.reduceAdd, Nat.reduceSub, Nat.reduceEqDiff, List.replicate_succ, List.replicate_zero, List.getElem?_cons_zero, List.getElem?_cons_succ, List.set_cons_zero, List.set_cons_succ, Option.map_some, len_LI, len_list, add_int, sub_int, mod_int, fdv_int, mul_int, pow_int, lt_int, le_int, gt_int, ge_int, eq_int, ne_int, eq_LI, ne_LI, inn_LI, nin_LI, sli_LI, sub_LI, seq_LI, cmpW_d, is_bool, isn_bool, Bool.not_true, Bool.not_false, beq_self_eq_true, ite_true, if_true, Bool.false_eq_true, if_false, reduceIte, Dw_frz, frz_0, frz_VL, ne_bool, eq_bool, sorted_LI, seq_VL, eq_VL, ne_VL, pair_0, pair_1, len_VL, newL_f, onlyL_LI, mthO_index, max2_int, min2_int, Dw_get, Dw_set, Dw_app, Dw_len, isiW_d, isi_int_int, isi_int_bool, isi_int_list, isi_int_tuple, isi_int_str, isi_int_none, isi_int_LI, isi_int_VL, isi_bool_int, isi_bool_bool, isi_bool_list, isi_bool_tuple, isi_bool_str, isi_bool_none, isi_bool_LI, isi_bool_VL, isi_list_int, isi_list_bool, isi_list_list, isi_list_tuple, isi_list_str, isi_list_none, isi_list_LI, isi_list_VL, isi_tuple_int, isi_tuple_bool, isi_tuple_list, isi_tuple_tuple, isi_tuple_str, isi_tuple_none, isi_tuple_LI, isi_tuple_VL, isi_str_int, isi_str_bool, isi_str_list, isi_str_tuple, isi_str_str, isi_str_none, isi_str_LI, isi_str_VL, decide_true, decide_false, Bool.and_true, Bool.and_false, Bool.true_and, Bool.false_and, Bool.or_true, Bool.or_false, reduceCtorEq]
theorem row_call {k : Nat} {ns : List Int} {c L : Int} (hn : ns ≠ []) (h1 : 0 < L) (h2 : L ≤ 12) :
    ∃ xs ns' c', okRow xs ∧ xs.length ≤ L.toNat ∧ ns' ≠ [] ∧ callW (run T (k + 3)) 1 24 [.m 1, .d (.int L)] (Dw ns c []) = some (.val (.d (LI xs)) (Dw ns' c' [])) := rowR_call hn h1 h2 rfl
theorem is_int_call {k : Nat} {M : MH} {v a b : Int} : callW (run T (k + 1)) 0 0 [.d (.int v), .d (.int a), .d (.int b)] M = some (.val (.d (.bool (decide (a ≤ v ∧ v ≤ b)))) M) := by
  refine call0 (M' := []) ?_ rfl
  rw [run_eq (fi := i0) rfl rfl]
  by_cases h1 : a ≤ v <;> by_cases h2 : v ≤ b <;> simp only [i0, exSs, exS, ev.eq_1, ev.eq_2, ev.eq_3, ev.eq_4, ev.eq_5, ev.eq_6, ev.eq_7, ev.eq_8, ev.eq_9, ev.eq_10, ev.eq_11, ev.eq_12, ev.eq_13, ev.eq_14, ev.eq_15, ev.eq_16, ev.eq_17, ev.eq_18, ev.eq_19, ev.eq_21, ev.eq_22, ev.eq_23, ev.eq_24, ev.eq_25, ev.eq_26, ev.eq_27, ev.eq_28, ev.eq_29, evs, evO, evB, evC, evi, obO, obL, obI, obP, obS, obLS, obIS, Wl.ret, retB, dat, dats, views, view, startW, fin, put, putAll, setAll, wipeW, List.map_cons, List.map_nil, List.length_cons, List.length_nil, List.cons_append, List.nil_append, Nat.reduceAdd, Nat.reduceSub, Nat.reduceEqDiff, List.replicate_succ, List.replicate_zero, List.getElem?_cons_zero, List.getElem?_cons_succ, List.set_cons_zero, List.set_cons_succ, Option.map_some, len_LI, len_list, add_int, sub_int, mod_int, fdv_int, mul_int, pow_int, lt_int, le_int, gt_int, ge_int, eq_int, ne_int, eq_LI, ne_LI, inn_LI, nin_LI, sli_LI, sub_LI, seq_LI, cmpW_d, is_bool, isn_bool, Bool.not_true, Bool.not_false, beq_self_eq_true, ite_true, if_true, Bool.false_eq_true, if_false, reduceIte, Dw_frz, frz_0, frz_VL, ne_bool, eq_bool, sorted_LI, seq_VL, eq_VL, ne_VL, pair_0, pair_1, len_VL, newL_f, onlyL_LI, mthO_index, max2_int, min2_int, Dw_get, Dw_set, Dw_app, Dw_len, isiW_d, isi_int_int, isi_int_bool, isi_int_list, isi_int_tuple, isi_int_str, isi_int_none, isi_int_LI, isi_int_VL, isi_bool_int, isi_bool_bool, isi_bool_list, isi_bool_tuple, isi_bool_str, isi_bool_none, isi_bool_LI, isi_bool_VL, isi_list_int, isi_list_bool, isi_list_list, isi_list_tuple, isi_list_str, isi_list_none, isi_list_LI, isi_list_VL, isi_tuple_int, isi_tuple_bool, isi_tuple_list, isi_tuple_tuple, isi_tuple_str, isi_tuple_none, isi_tuple_LI, isi_tuple_VL, isi_str_int, isi_str_bool, isi_str_list, isi_str_tuple, isi_str_str, isi_str_none, isi_str_LI, isi_str_VL, decide_true, decide_false, Bool.and_true, Bool.and_false, Bool.true_and, Bool.false_and, Bool.or_true, Bool.or_false, reduceCtorEq, h1, h2, and_self, and_true, true_and, false_and, and_false]
theorem is_row_call {k : Nat} {M : MH} {xs : List Int} (h : okRow xs) : callW (run T (k + 2)) 0 1 [.d (LI xs)] M = some (.val (.d (.bool true)) M) := by
  obtain ⟨h1, h2, h3⟩ := h
  have hl := List.length_pos_iff.mpr h1
  refine call0 (M' := []) ?_ rfl
  refine run_ret (fi := i1) (M' := []) rfl rfl ?_
  simp only [i1, startW, List.map_cons, List.map_nil, List.length_cons, List.length_nil, Nat.reduceAdd, Nat.reduceSub, List.replicate_succ, List.replicate_zero, List.cons_append, List.nil_append]
  have e1 : isiD .list (LI xs) = some true := rfl
  have e2 : (1 : Int) ≤ (xs.length : Int) := by omega
  have e3 : (xs.length : Int) ≤ 12 := by omega
  have e4 : ∀ {M : MH}, ev (run T (k + 1)) (.lc false [1] (.seq 0 (.var 0)) [1] .nil (.call 0 0 (.cons (.var 1) (.cons (.cst (.int 0)) (.cons (.glb "MOST_VALUE" (.int 9)) .nil))))) [some (.d (LI xs)), none] M = some (.val (.d (.list (((xs.map fun _ => true)).map .bool))) M) := by
    intro M
    refine (ev_lcS (xs := xs.map .int) (ys := xs.map fun _ => .bool true) (M1 := M) (M2 := M) ?_ (lcF_map fun x hx => ?_) (by rw [List.length_map]; exact cap_of (by omega))).trans ?_
    · simp only [exSs, exS, ev.eq_1, ev.eq_2, ev.eq_3, ev.eq_4, ev.eq_5, ev.eq_6, ev.eq_7, ev.eq_8, ev.eq_9, ev.eq_10, ev.eq_11, ev.eq_12, ev.eq_13, ev.eq_14, ev.eq_15, ev.eq_16, ev.eq_17, ev.eq_18, ev.eq_19, ev.eq_21, ev.eq_22, ev.eq_23, ev.eq_24, ev.eq_25, ev.eq_26, ev.eq_27, ev.eq_28, ev.eq_29, evs, evO, evB, evC, evi, obO, obL, obI, obP, obS, obLS, obIS, Wl.ret, retB, dat, dats, views, view, startW, fin, put, putAll, setAll, wipeW, List.map_cons, List.map_nil, List.length_cons, List.length_nil, List.cons_append, List.nil_append, Nat.reduceAdd, Nat.reduceSub, Nat.reduceEqDiff, List.replicate_succ, List.replicate_zero, List.getElem?_cons_zero, List.getElem?_cons_succ, List.set_cons_zero, List.set_cons_succ, Option.map_some, len_LI, len_list, add_int, sub_int, mod_int, fdv_int, mul_int, pow_int, lt_int, le_int, gt_int, ge_int, eq_int, ne_int, eq_LI, ne_LI, inn_LI, nin_LI, sli_LI, sub_LI, seq_LI, cmpW_d, is_bool, isn_bool, Bool.not_true, Bool.not_false, beq_self_eq_true, ite_true, if_true, Bool.false_eq_true, if_false, reduceIte, Dw_frz, frz_0, frz_VL, ne_bool, eq_bool, sorted_LI, seq_VL, eq_VL, ne_VL, pair_0, pair_1, len_VL, newL_f, onlyL_LI, mthO_index, max2_int, min2_int, Dw_get, Dw_set, Dw_app, Dw_len, isiW_d, isi_int_int, isi_int_bool, isi_int_list, isi_int_tuple, isi_int_str, isi_int_none, isi_int_LI, isi_int_VL, isi_bool_int, isi_bool_bool, isi_bool_list, isi_bool_tuple, isi_bool_str, isi_bool_none, isi_bool_LI, isi_bool_VL, isi_list_int, isi_list_bool, isi_list_list, isi_list_tuple, isi_list_str, isi_list_none, isi_list_LI, isi_list_VL, isi_tuple_int, isi_tuple_bool, isi_tuple_list, isi_tuple_tuple, isi_tuple_str, isi_tuple_none, isi_tuple_LI, isi_tuple_VL, isi_str_int, isi_str_bool, isi_str_list, isi_str_tuple, isi_str_str, isi_str_none, isi_str_LI, isi_str_VL, decide_true, decide_false, Bool.and_true, Bool.and_false, Bool.true_and, Bool.false_and, Bool.or_true, Bool.or_false, reduceCtorEq]
    · simp only [exSs, exS, ev.eq_1, ev.eq_2, ev.eq_3, ev.eq_4, ev.eq_5, ev.eq_6, ev.eq_7, ev.eq_8, ev.eq_9, ev.eq_10, ev.eq_11, ev.eq_12, ev.eq_13, ev.eq_14, ev.eq_15, ev.eq_16, ev.eq_17, ev.eq_18, ev.eq_19, ev.eq_21, ev.eq_22, ev.eq_23, ev.eq_24, ev.eq_25, ev.eq_26, ev.eq_27, ev.eq_28, ev.eq_29, evs, evO, evB, evC, evi, obO, obL, obI, obP, obS, obLS, obIS, Wl.ret, retB, dat, dats, views, view, startW, fin, put, putAll, setAll, wipeW, List.map_cons, List.map_nil, List.length_cons, List.length_nil, List.cons_append, List.nil_append, Nat.reduceAdd, Nat.reduceSub, Nat.reduceEqDiff, List.replicate_succ, List.replicate_zero, List.getElem?_cons_zero, List.getElem?_cons_succ, List.set_cons_zero, List.set_cons_succ, Option.map_some, len_LI, len_list, add_int, sub_int, mod_int, fdv_int, mul_int, pow_int, lt_int, le_int, gt_int, ge_int, eq_int, ne_int, eq_LI, ne_LI, inn_LI, nin_LI, sli_LI, sub_LI, seq_LI, cmpW_d, is_bool, isn_bool, Bool.not_true, Bool.not_false, beq_self_eq_true, ite_true, if_true, Bool.false_eq_true, if_false, reduceIte, Dw_frz, frz_0, frz_VL, ne_bool, eq_bool, sorted_LI, seq_VL, eq_VL, ne_VL, pair_0, pair_1, len_VL, newL_f, onlyL_LI, mthO_index, max2_int, min2_int, Dw_get, Dw_set, Dw_app, Dw_len, isiW_d, isi_int_int, isi_int_bool, isi_int_list, isi_int_tuple, isi_int_str, isi_int_none, isi_int_LI, isi_int_VL, isi_bool_int, isi_bool_bool, isi_bool_list, isi_bool_tuple, isi_bool_str, isi_bool_none, isi_bool_LI, isi_bool_VL, isi_list_int, isi_list_bool, isi_list_list, isi_list_tuple, isi_list_str, isi_list_none, isi_list_LI, isi_list_VL, isi_tuple_int, isi_tuple_bool, isi_tuple_list, isi_tuple_tuple, isi_tuple_str, isi_tuple_none, isi_tuple_LI, isi_tuple_VL, isi_str_int, isi_str_bool, isi_str_list, isi_str_tuple, isi_str_str, isi_str_none, isi_str_LI, isi_str_VL, decide_true, decide_false, Bool.and_true, Bool.and_false, Bool.true_and, Bool.false_and, Bool.or_true, Bool.or_false, reduceCtorEq, is_int_call, decide_eq_true (h3 x hx)]
    · rw [List.map_map]
      rfl
  apply Eq.trans
  · apply exSs_cons
    (simp only [exSs, exS, ev.eq_1, ev.eq_2, ev.eq_3, ev.eq_4, ev.eq_5, ev.eq_6, ev.eq_7, ev.eq_8, ev.eq_9, ev.eq_10, ev.eq_11, ev.eq_12, ev.eq_13, ev.eq_14, ev.eq_15, ev.eq_16, ev.eq_17, ev.eq_18, ev.eq_19, ev.eq_21, ev.eq_22, ev.eq_23, ev.eq_24, ev.eq_25, ev.eq_26, ev.eq_27, ev.eq_28, ev.eq_29, evs, evO, evB, evC, evi, obO, obL, obI, obP, obS, obLS, obIS, Wl.ret, retB, dat, dats, views, view, startW, fin, put, putAll, setAll, wipeW, List.map_cons, List.map_nil, List.length_cons, List.length_nil, List.cons_append, List.nil_append, Nat.reduceAdd, Nat.reduceSub, Nat.reduceEqDiff, List.replicate_succ, List.replicate_zero, List.getElem?_cons_zero, List.getElem?_cons_succ, List.set_cons_zero, List.set_cons_succ, Option.map_some, len_LI, len_list, add_int, sub_int, mod_int, fdv_int, mul_int, pow_int, lt_int, le_int, gt_int, ge_int, eq_int, ne_int, eq_LI, ne_LI, inn_LI, nin_LI, sli_LI, sub_LI, seq_LI, cmpW_d, is_bool, isn_bool, Bool.not_true, Bool.not_false, beq_self_eq_true, ite_true, if_true, Bool.false_eq_true, if_false, reduceIte, Dw_frz, frz_0, frz_VL, ne_bool, eq_bool, sorted_LI, seq_VL, eq_VL, ne_VL, pair_0, pair_1, len_VL, newL_f, onlyL_LI, mthO_index, max2_int, min2_int, Dw_get, Dw_set, Dw_app, Dw_len, isiW_d, isi_int_int, isi_int_bool, isi_int_list, isi_int_tuple, isi_int_str, isi_int_none, isi_int_LI, isi_int_VL, isi_bool_int, isi_bool_bool, isi_bool_list, isi_bool_tuple, isi_bool_str, isi_bool_none, isi_bool_LI, isi_bool_VL, isi_list_int, isi_list_bool, isi_list_list, isi_list_tuple, isi_list_str, isi_list_none, isi_list_LI, isi_list_VL, isi_tuple_int, isi_tuple_bool, isi_tuple_list, isi_tuple_tuple, isi_tuple_str, isi_tuple_none, isi_tuple_LI, isi_tuple_VL, isi_str_int, isi_str_bool, isi_str_list, isi_str_tuple, isi_str_str, isi_str_none, isi_str_LI, isi_str_VL, decide_true, decide_false, Bool.and_true, Bool.and_false, Bool.true_and, Bool.false_and, Bool.or_true, Bool.or_false, reduceCtorEq, e1, decide_eq_true e2, decide_eq_true e3]) <;> rfl
  rw [exSs_rt (w := .d (.bool true)) (M1 := [])]
  rw [exS, ev, evs, e4]
  simp only [exSs, exS, ev.eq_1, ev.eq_2, ev.eq_3, ev.eq_4, ev.eq_5, ev.eq_6, ev.eq_7, ev.eq_8, ev.eq_9, ev.eq_10, ev.eq_11, ev.eq_12, ev.eq_13, ev.eq_14, ev.eq_15, ev.eq_16, ev.eq_17, ev.eq_18, ev.eq_19, ev.eq_21, ev.eq_22, ev.eq_23, ev.eq_24, ev.eq_25, ev.eq_26, ev.eq_27, ev.eq_28, ev.eq_29, evs, evO, evB, evC, evi, obO, obL, obI, obP, obS, obLS, obIS, Wl.ret, retB, dat, dats, views, view, startW, fin, put, putAll, setAll, wipeW, List.map_cons, List.map_nil, List.length_cons, List.length_nil, List.cons_append, List.nil_append, Nat.reduceAdd, Nat.reduceSub, Nat.reduceEqDiff, List.replicate_succ, List.replicate_zero, List.getElem?_cons_zero, List.getElem?_cons_succ, List.set_cons_zero, List.set_cons_succ, Option.map_some, len_LI, len_list, add_int, sub_int, mod_int, fdv_int, mul_int, pow_int, lt_int, le_int, gt_int, ge_int, eq_int, ne_int, eq_LI, ne_LI, inn_LI, nin_LI, sli_LI, sub_LI, seq_LI, cmpW_d, is_bool, isn_bool, Bool.not_true, Bool.not_false, beq_self_eq_true, ite_true, if_true, Bool.false_eq_true, if_false, reduceIte, Dw_frz, frz_0, frz_VL, ne_bool, eq_bool, sorted_LI, seq_VL, eq_VL, ne_VL, pair_0, pair_1, len_VL, newL_f, onlyL_LI, mthO_index, max2_int, min2_int, Dw_get, Dw_set, Dw_app, Dw_len, isiW_d, isi_int_int, isi_int_bool, isi_int_list, isi_int_tuple, isi_int_str, isi_int_none, isi_int_LI, isi_int_VL, isi_bool_int, isi_bool_bool, isi_bool_list, isi_bool_tuple, isi_bool_str, isi_bool_none, isi_bool_LI, isi_bool_VL, isi_list_int, isi_list_bool, isi_list_list, isi_list_tuple, isi_list_str, isi_list_none, isi_list_LI, isi_list_VL, isi_tuple_int, isi_tuple_bool, isi_tuple_list, isi_tuple_tuple, isi_tuple_str, isi_tuple_none, isi_tuple_LI, isi_tuple_VL, isi_str_int, isi_str_bool, isi_str_list, isi_str_tuple, isi_str_str, isi_str_none, isi_str_LI, isi_str_VL, decide_true, decide_false, Bool.and_true, Bool.and_false, Bool.true_and, Bool.false_and, Bool.or_true, Bool.or_false, reduceCtorEq, all_LB]
  rw [show ((xs.map fun _ => true).all id) = true from List.all_eq_true.mpr fun b hb => by
    obtain ⟨_, _, rfl⟩ := List.mem_map.mp hb
    rfl]
theorem check_row_call {k : Nat} {M : MH} {xs : List Int} (h : okRow xs) : callW (run T (k + 3)) 0 2 [.d (LI xs)] M = some (.val (.d .none) M) := by
  refine call0 (M' := []) ?_ rfl
  rw [run_eq (fi := i2) rfl rfl]
  simp only [i2, exSs, exS, ev.eq_1, ev.eq_2, ev.eq_3, ev.eq_4, ev.eq_5, ev.eq_6, ev.eq_7, ev.eq_8, ev.eq_9, ev.eq_10, ev.eq_11, ev.eq_12, ev.eq_13, ev.eq_14, ev.eq_15, ev.eq_16, ev.eq_17, ev.eq_18, ev.eq_19, ev.eq_21, ev.eq_22, ev.eq_23, ev.eq_24, ev.eq_25, ev.eq_26, ev.eq_27, ev.eq_28, ev.eq_29, evs, evO, evB, evC, evi, obO, obL, obI, obP, obS, obLS, obIS, Wl.ret, retB, dat, dats, views, view, startW, fin, put, putAll, setAll, wipeW, List.map_cons, List.map_nil, List.length_cons, List.length_nil, List.cons_append, List.nil_append, Nat.reduceAdd, Nat.reduceSub, Nat.reduceEqDiff, List.replicate_succ, List.replicate_zero, List.getElem?_cons_zero, List.getElem?_cons_succ, List.set_cons_zero, List.set_cons_succ, Option.map_some, len_LI, len_list, add_int, sub_int, mod_int, fdv_int, mul_int, pow_int, lt_int, le_int, gt_int, ge_int, eq_int, ne_int, eq_LI, ne_LI, inn_LI, nin_LI, sli_LI, sub_LI, seq_LI, cmpW_d, is_bool, isn_bool, Bool.not_true, Bool.not_false, beq_self_eq_true, ite_true, if_true, Bool.false_eq_true, if_false, reduceIte, Dw_frz, frz_0, frz_VL, ne_bool, eq_bool, sorted_LI, seq_VL, eq_VL, ne_VL, pair_0, pair_1, len_VL, newL_f, onlyL_LI, mthO_index, max2_int, min2_int, Dw_get, Dw_set, Dw_app, Dw_len, isiW_d, isi_int_int, isi_int_bool, isi_int_list, isi_int_tuple, isi_int_str, isi_int_none, isi_int_LI, isi_int_VL, isi_bool_int, isi_bool_bool, isi_bool_list, isi_bool_tuple, isi_bool_str, isi_bool_none, isi_bool_LI, isi_bool_VL, isi_list_int, isi_list_bool, isi_list_list, isi_list_tuple, isi_list_str, isi_list_none, isi_list_LI, isi_list_VL, isi_tuple_int, isi_tuple_bool, isi_tuple_list, isi_tuple_tuple, isi_tuple_str, isi_tuple_none, isi_tuple_LI, isi_tuple_VL, isi_str_int, isi_str_bool, isi_str_list, isi_str_tuple, isi_str_str, isi_str_none, isi_str_LI, isi_str_VL, decide_true, decide_false, Bool.and_true, Bool.and_false, Bool.true_and, Bool.false_and, Bool.or_true, Bool.or_false, reduceCtorEq, is_row_call h]
theorem check_width_call {k : Nat} {M : MH} {xs : List Int} {w : Int} (h1 : 1 ≤ w) (h2 : w ≤ xs.length) : callW (run T (k + 2)) 0 3 [.d (LI xs), .d (.int w)] M = some (.val (.d .none) M) := by
  refine call0 (M' := []) ?_ rfl
  rw [run_eq (fi := i3) rfl rfl]
  simp only [i3, exSs, exS, ev.eq_1, ev.eq_2, ev.eq_3, ev.eq_4, ev.eq_5, ev.eq_6, ev.eq_7, ev.eq_8, ev.eq_9, ev.eq_10, ev.eq_11, ev.eq_12, ev.eq_13, ev.eq_14, ev.eq_15, ev.eq_16, ev.eq_17, ev.eq_18, ev.eq_19, ev.eq_21, ev.eq_22, ev.eq_23, ev.eq_24, ev.eq_25, ev.eq_26, ev.eq_27, ev.eq_28, ev.eq_29, evs, evO, evB, evC, evi, obO, obL, obI, obP, obS, obLS, obIS, Wl.ret, retB, dat, dats, views, view, startW, fin, put, putAll, setAll, wipeW, List.map_cons, List.map_nil, List.length_cons, List.length_nil, List.cons_append, List.nil_append, Nat.reduceAdd, Nat.reduceSub, Nat.reduceEqDiff, List.replicate_succ, List.replicate_zero, List.getElem?_cons_zero, List.getElem?_cons_succ, List.set_cons_zero, List.set_cons_succ, Option.map_some, len_LI, len_list, add_int, sub_int, mod_int, fdv_int, mul_int, pow_int, lt_int, le_int, gt_int, ge_int, eq_int, ne_int, eq_LI, ne_LI, inn_LI, nin_LI, sli_LI, sub_LI, seq_LI, cmpW_d, is_bool, isn_bool, Bool.not_true, Bool.not_false, beq_self_eq_true, ite_true, if_true, Bool.false_eq_true, if_false, reduceIte, Dw_frz, frz_0, frz_VL, ne_bool, eq_bool, sorted_LI, seq_VL, eq_VL, ne_VL, pair_0, pair_1, len_VL, newL_f, onlyL_LI, mthO_index, max2_int, min2_int, Dw_get, Dw_set, Dw_app, Dw_len, isiW_d, isi_int_int, isi_int_bool, isi_int_list, isi_int_tuple, isi_int_str, isi_int_none, isi_int_LI, isi_int_VL, isi_bool_int, isi_bool_bool, isi_bool_list, isi_bool_tuple, isi_bool_str, isi_bool_none, isi_bool_LI, isi_bool_VL, isi_list_int, isi_list_bool, isi_list_list, isi_list_tuple, isi_list_str, isi_list_none, isi_list_LI, isi_list_VL, isi_tuple_int, isi_tuple_bool, isi_tuple_list, isi_tuple_tuple, isi_tuple_str, isi_tuple_none, isi_tuple_LI, isi_tuple_VL, isi_str_int, isi_str_bool, isi_str_list, isi_str_tuple, isi_str_str, isi_str_none, isi_str_LI, isi_str_VL, decide_true, decide_false, Bool.and_true, Bool.and_false, Bool.true_and, Bool.false_and, Bool.or_true, Bool.or_false, reduceCtorEq, is_int_call, decide_eq_true (And.intro h1 h2)]
theorem lows_call {k : Nat} {M : MH} {xs : List Int} {w : Int} (h1 : 1 ≤ w) (h2 : w ≤ xs.length) (h3 : xs.length ≤ 900) : callW (run T (k + 1)) 0 6 [.d (LI xs), .d (.int w)] M = some (.val (.d (LI (lowsL xs w))) M) := by
  refine call0 (M' := []) ?_ rfl
  refine run_ret (fi := i6) (M' := []) rfl rfl ?_
  simp only [i6, startW, List.map_cons, List.map_nil, List.length_cons, List.length_nil, Nat.reduceAdd, Nat.reduceSub, List.replicate_succ, List.replicate_zero, List.cons_append, List.nil_append]
  rw [exSs_rt (w := .d (LI (lowsL xs w))) (M1 := [])]
  rw [exS]
  rw [ev_lcS (xs := (upto (xs.length - w.toNat + 1)).map .int) (ys := (upto (xs.length - w.toNat + 1)).map fun i => .int (minI (win xs i.toNat w.toNat))) (M1 := []) (M2 := [])]
  · simp only [exSs, exS, ev.eq_1, ev.eq_2, ev.eq_3, ev.eq_4, ev.eq_5, ev.eq_6, ev.eq_7, ev.eq_8, ev.eq_9, ev.eq_10, ev.eq_11, ev.eq_12, ev.eq_13, ev.eq_14, ev.eq_15, ev.eq_16, ev.eq_17, ev.eq_18, ev.eq_19, ev.eq_21, ev.eq_22, ev.eq_23, ev.eq_24, ev.eq_25, ev.eq_26, ev.eq_27, ev.eq_28, ev.eq_29, evs, evO, evB, evC, evi, obO, obL, obI, obP, obS, obLS, obIS, Wl.ret, retB, dat, dats, views, view, startW, fin, put, putAll, setAll, wipeW, List.map_cons, List.map_nil, List.length_cons, List.length_nil, List.cons_append, List.nil_append, Nat.reduceAdd, Nat.reduceSub, Nat.reduceEqDiff, List.replicate_succ, List.replicate_zero, List.getElem?_cons_zero, List.getElem?_cons_succ, List.set_cons_zero, List.set_cons_succ, Option.map_some, len_LI, len_list, add_int, sub_int, mod_int, fdv_int, mul_int, pow_int, lt_int, le_int, gt_int, ge_int, eq_int, ne_int, eq_LI, ne_LI, inn_LI, nin_LI, sli_LI, sub_LI, seq_LI, cmpW_d, is_bool, isn_bool, Bool.not_true, Bool.not_false, beq_self_eq_true, ite_true, if_true, Bool.false_eq_true, if_false, reduceIte, Dw_frz, frz_0, frz_VL, ne_bool, eq_bool, sorted_LI, seq_VL, eq_VL, ne_VL, pair_0, pair_1, len_VL, newL_f, onlyL_LI, mthO_index, max2_int, min2_int, Dw_get, Dw_set, Dw_app, Dw_len, isiW_d, isi_int_int, isi_int_bool, isi_int_list, isi_int_tuple, isi_int_str, isi_int_none, isi_int_LI, isi_int_VL, isi_bool_int, isi_bool_bool, isi_bool_list, isi_bool_tuple, isi_bool_str, isi_bool_none, isi_bool_LI, isi_bool_VL, isi_list_int, isi_list_bool, isi_list_list, isi_list_tuple, isi_list_str, isi_list_none, isi_list_LI, isi_list_VL, isi_tuple_int, isi_tuple_bool, isi_tuple_list, isi_tuple_tuple, isi_tuple_str, isi_tuple_none, isi_tuple_LI, isi_tuple_VL, isi_str_int, isi_str_bool, isi_str_list, isi_str_tuple, isi_str_str, isi_str_none, isi_str_LI, isi_str_VL, decide_true, decide_false, Bool.and_true, Bool.and_false, Bool.true_and, Bool.false_and, Bool.or_true, Bool.or_false, reduceCtorEq]
    unfold lowsL
    rw [LI_def, List.map_map]
    rfl
  · simp only [exSs, exS, ev.eq_1, ev.eq_2, ev.eq_3, ev.eq_4, ev.eq_5, ev.eq_6, ev.eq_7, ev.eq_8, ev.eq_9, ev.eq_10, ev.eq_11, ev.eq_12, ev.eq_13, ev.eq_14, ev.eq_15, ev.eq_16, ev.eq_17, ev.eq_18, ev.eq_19, ev.eq_21, ev.eq_22, ev.eq_23, ev.eq_24, ev.eq_25, ev.eq_26, ev.eq_27, ev.eq_28, ev.eq_29, evs, evO, evB, evC, evi, obO, obL, obI, obP, obS, obLS, obIS, Wl.ret, retB, dat, dats, views, view, startW, fin, put, putAll, setAll, wipeW, List.map_cons, List.map_nil, List.length_cons, List.length_nil, List.cons_append, List.nil_append, Nat.reduceAdd, Nat.reduceSub, Nat.reduceEqDiff, List.replicate_succ, List.replicate_zero, List.getElem?_cons_zero, List.getElem?_cons_succ, List.set_cons_zero, List.set_cons_succ, Option.map_some, len_LI, len_list, add_int, sub_int, mod_int, fdv_int, mul_int, pow_int, lt_int, le_int, gt_int, ge_int, eq_int, ne_int, eq_LI, ne_LI, inn_LI, nin_LI, sli_LI, sub_LI, seq_LI, cmpW_d, is_bool, isn_bool, Bool.not_true, Bool.not_false, beq_self_eq_true, ite_true, if_true, Bool.false_eq_true, if_false, reduceIte, Dw_frz, frz_0, frz_VL, ne_bool, eq_bool, sorted_LI, seq_VL, eq_VL, ne_VL, pair_0, pair_1, len_VL, newL_f, onlyL_LI, mthO_index, max2_int, min2_int, Dw_get, Dw_set, Dw_app, Dw_len, isiW_d, isi_int_int, isi_int_bool, isi_int_list, isi_int_tuple, isi_int_str, isi_int_none, isi_int_LI, isi_int_VL, isi_bool_int, isi_bool_bool, isi_bool_list, isi_bool_tuple, isi_bool_str, isi_bool_none, isi_bool_LI, isi_bool_VL, isi_list_int, isi_list_bool, isi_list_list, isi_list_tuple, isi_list_str, isi_list_none, isi_list_LI, isi_list_VL, isi_tuple_int, isi_tuple_bool, isi_tuple_list, isi_tuple_tuple, isi_tuple_str, isi_tuple_none, isi_tuple_LI, isi_tuple_VL, isi_str_int, isi_str_bool, isi_str_list, isi_str_tuple, isi_str_str, isi_str_none, isi_str_LI, isi_str_VL, decide_true, decide_false, Bool.and_true, Bool.and_false, Bool.true_and, Bool.false_and, Bool.or_true, Bool.or_false, reduceCtorEq, rngw h1 h2 h3]
  · refine lcF_map fun i hi => ?_
    obtain ⟨c1, c2⟩ := cut_at h1 h2 hi
    simp only [exSs, exS, ev.eq_1, ev.eq_2, ev.eq_3, ev.eq_4, ev.eq_5, ev.eq_6, ev.eq_7, ev.eq_8, ev.eq_9, ev.eq_10, ev.eq_11, ev.eq_12, ev.eq_13, ev.eq_14, ev.eq_15, ev.eq_16, ev.eq_17, ev.eq_18, ev.eq_19, ev.eq_21, ev.eq_22, ev.eq_23, ev.eq_24, ev.eq_25, ev.eq_26, ev.eq_27, ev.eq_28, ev.eq_29, evs, evO, evB, evC, evi, obO, obL, obI, obP, obS, obLS, obIS, Wl.ret, retB, dat, dats, views, view, startW, fin, put, putAll, setAll, wipeW, List.map_cons, List.map_nil, List.length_cons, List.length_nil, List.cons_append, List.nil_append, Nat.reduceAdd, Nat.reduceSub, Nat.reduceEqDiff, List.replicate_succ, List.replicate_zero, List.getElem?_cons_zero, List.getElem?_cons_succ, List.set_cons_zero, List.set_cons_succ, Option.map_some, len_LI, len_list, add_int, sub_int, mod_int, fdv_int, mul_int, pow_int, lt_int, le_int, gt_int, ge_int, eq_int, ne_int, eq_LI, ne_LI, inn_LI, nin_LI, sli_LI, sub_LI, seq_LI, cmpW_d, is_bool, isn_bool, Bool.not_true, Bool.not_false, beq_self_eq_true, ite_true, if_true, Bool.false_eq_true, if_false, reduceIte, Dw_frz, frz_0, frz_VL, ne_bool, eq_bool, sorted_LI, seq_VL, eq_VL, ne_VL, pair_0, pair_1, len_VL, newL_f, onlyL_LI, mthO_index, max2_int, min2_int, Dw_get, Dw_set, Dw_app, Dw_len, isiW_d, isi_int_int, isi_int_bool, isi_int_list, isi_int_tuple, isi_int_str, isi_int_none, isi_int_LI, isi_int_VL, isi_bool_int, isi_bool_bool, isi_bool_list, isi_bool_tuple, isi_bool_str, isi_bool_none, isi_bool_LI, isi_bool_VL, isi_list_int, isi_list_bool, isi_list_list, isi_list_tuple, isi_list_str, isi_list_none, isi_list_LI, isi_list_VL, isi_tuple_int, isi_tuple_bool, isi_tuple_list, isi_tuple_tuple, isi_tuple_str, isi_tuple_none, isi_tuple_LI, isi_tuple_VL, isi_str_int, isi_str_bool, isi_str_list, isi_str_tuple, isi_str_str, isi_str_none, isi_str_LI, isi_str_VL, decide_true, decide_false, Bool.and_true, Bool.and_false, Bool.true_and, Bool.false_and, Bool.or_true, Bool.or_false, reduceCtorEq, c1, min_LI c2]
  · rw [List.length_map, upto_len]
    exact cap_of (by omega)
theorem low_row_call {k : Nat} {M : MH} {xs : List Int} {w : Int} (h : okRow xs) (h1 : 1 ≤ w) (h2 : w ≤ xs.length) : callW (run T (k + 4)) 0 7 [.d (LI xs), .d (.int w)] M = some (.val (.d (LI (lowsL xs w))) M) := by
  have h3 : xs.length ≤ 900 := by have := h.2.1; omega
  refine call0 (M' := []) ?_ rfl
  rw [run_eq (fi := i7) rfl rfl]
  simp only [i7, exSs, exS, ev.eq_1, ev.eq_2, ev.eq_3, ev.eq_4, ev.eq_5, ev.eq_6, ev.eq_7, ev.eq_8, ev.eq_9, ev.eq_10, ev.eq_11, ev.eq_12, ev.eq_13, ev.eq_14, ev.eq_15, ev.eq_16, ev.eq_17, ev.eq_18, ev.eq_19, ev.eq_21, ev.eq_22, ev.eq_23, ev.eq_24, ev.eq_25, ev.eq_26, ev.eq_27, ev.eq_28, ev.eq_29, evs, evO, evB, evC, evi, obO, obL, obI, obP, obS, obLS, obIS, Wl.ret, retB, dat, dats, views, view, startW, fin, put, putAll, setAll, wipeW, List.map_cons, List.map_nil, List.length_cons, List.length_nil, List.cons_append, List.nil_append, Nat.reduceAdd, Nat.reduceSub, Nat.reduceEqDiff, List.replicate_succ, List.replicate_zero, List.getElem?_cons_zero, List.getElem?_cons_succ, List.set_cons_zero, List.set_cons_succ, Option.map_some, len_LI, len_list, add_int, sub_int, mod_int, fdv_int, mul_int, pow_int, lt_int, le_int, gt_int, ge_int, eq_int, ne_int, eq_LI, ne_LI, inn_LI, nin_LI, sli_LI, sub_LI, seq_LI, cmpW_d, is_bool, isn_bool, Bool.not_true, Bool.not_false, beq_self_eq_true, ite_true, if_true, Bool.false_eq_true, if_false, reduceIte, Dw_frz, frz_0, frz_VL, ne_bool, eq_bool, sorted_LI, seq_VL, eq_VL, ne_VL, pair_0, pair_1, len_VL, newL_f, onlyL_LI, mthO_index, max2_int, min2_int, Dw_get, Dw_set, Dw_app, Dw_len, isiW_d, isi_int_int, isi_int_bool, isi_int_list, isi_int_tuple, isi_int_str, isi_int_none, isi_int_LI, isi_int_VL, isi_bool_int, isi_bool_bool, isi_bool_list, isi_bool_tuple, isi_bool_str, isi_bool_none, isi_bool_LI, isi_bool_VL, isi_list_int, isi_list_bool, isi_list_list, isi_list_tuple, isi_list_str, isi_list_none, isi_list_LI, isi_list_VL, isi_tuple_int, isi_tuple_bool, isi_tuple_list, isi_tuple_tuple, isi_tuple_str, isi_tuple_none, isi_tuple_LI, isi_tuple_VL, isi_str_int, isi_str_bool, isi_str_list, isi_str_tuple, isi_str_str, isi_str_none, isi_str_LI, isi_str_VL, decide_true, decide_false, Bool.and_true, Bool.and_false, Bool.true_and, Bool.false_and, Bool.or_true, Bool.or_false, reduceCtorEq, check_row_call h, check_width_call h1 h2, lows_call h1 h2 h3]
theorem check_low_call {k : Nat} {M : MH} {xs : List Int} {w : Int} (h : okRow xs) (h1 : 1 ≤ w) (h2 : w + xs.length ≤ 13) : callW (run T (k + 4)) 0 4 [.d (LI xs), .d (.int w)] M = some (.val (.d .none) M) := by
  refine call0 (M' := []) ?_ rfl
  rw [run_eq (fi := i4) rfl rfl]
  have e : w ≤ 12 + 1 - (xs.length : Int) := by omega
  simp only [i4, exSs, exS, ev.eq_1, ev.eq_2, ev.eq_3, ev.eq_4, ev.eq_5, ev.eq_6, ev.eq_7, ev.eq_8, ev.eq_9, ev.eq_10, ev.eq_11, ev.eq_12, ev.eq_13, ev.eq_14, ev.eq_15, ev.eq_16, ev.eq_17, ev.eq_18, ev.eq_19, ev.eq_21, ev.eq_22, ev.eq_23, ev.eq_24, ev.eq_25, ev.eq_26, ev.eq_27, ev.eq_28, ev.eq_29, evs, evO, evB, evC, evi, obO, obL, obI, obP, obS, obLS, obIS, Wl.ret, retB, dat, dats, views, view, startW, fin, put, putAll, setAll, wipeW, List.map_cons, List.map_nil, List.length_cons, List.length_nil, List.cons_append, List.nil_append, Nat.reduceAdd, Nat.reduceSub, Nat.reduceEqDiff, List.replicate_succ, List.replicate_zero, List.getElem?_cons_zero, List.getElem?_cons_succ, List.set_cons_zero, List.set_cons_succ, Option.map_some, len_LI, len_list, add_int, sub_int, mod_int, fdv_int, mul_int, pow_int, lt_int, le_int, gt_int, ge_int, eq_int, ne_int, eq_LI, ne_LI, inn_LI, nin_LI, sli_LI, sub_LI, seq_LI, cmpW_d, is_bool, isn_bool, Bool.not_true, Bool.not_false, beq_self_eq_true, ite_true, if_true, Bool.false_eq_true, if_false, reduceIte, Dw_frz, frz_0, frz_VL, ne_bool, eq_bool, sorted_LI, seq_VL, eq_VL, ne_VL, pair_0, pair_1, len_VL, newL_f, onlyL_LI, mthO_index, max2_int, min2_int, Dw_get, Dw_set, Dw_app, Dw_len, isiW_d, isi_int_int, isi_int_bool, isi_int_list, isi_int_tuple, isi_int_str, isi_int_none, isi_int_LI, isi_int_VL, isi_bool_int, isi_bool_bool, isi_bool_list, isi_bool_tuple, isi_bool_str, isi_bool_none, isi_bool_LI, isi_bool_VL, isi_list_int, isi_list_bool, isi_list_list, isi_list_tuple, isi_list_str, isi_list_none, isi_list_LI, isi_list_VL, isi_tuple_int, isi_tuple_bool, isi_tuple_list, isi_tuple_tuple, isi_tuple_str, isi_tuple_none, isi_tuple_LI, isi_tuple_VL, isi_str_int, isi_str_bool, isi_str_list, isi_str_tuple, isi_str_str, isi_str_none, isi_str_LI, isi_str_VL, decide_true, decide_false, Bool.and_true, Bool.and_false, Bool.true_and, Bool.false_and, Bool.or_true, Bool.or_false, reduceCtorEq, check_row_call h, is_int_call, decide_eq_true (And.intro h1 e)]
theorem lowest_origin_call {k : Nat} {M : MH} {xs : List Int} {w : Int} (h : okRow xs) (h1 : 1 ≤ w) (h2 : w + xs.length ≤ 13) : callW (run T (k + 1)) 0 8 [.d (LI xs), .d (.int w)] M = some (.val (.d (LI (upL xs w))) M) := by
  have hl := List.length_pos_iff.mpr h.1
  have c0 : (0 : Nat) ≤ cap := by decide
  refine call0 (M' := [.dead]) ?_ rfl
  obtain ⟨σ4, M4, f1, v3, rfl, e2⟩ := forF_at (step := fun x σ1 N => match put [3] x σ1 with
      | some σ2 => exSs (run T k) b8_0 σ2 N
      | none => none) (fun n σ M => ∃ v3, σ = [some (.d (LI xs)), some (.d (.int w)), some (.m 0), v3] ∧ M = [.lst ((upN xs w n).map fun i => .d (.int i))])
      (xs := (upto (xs.length + w.toNat - 1)).map .int) (σ := [some (.d (LI xs)), some (.d (.int w)), some (.m 0), none]) (M := [.lst []]) ⟨none, rfl, rfl⟩ fun i x σ M hx ⟨v3, e1, e2⟩ => by
    obtain ⟨rfl, hi⟩ := upto_get hx
    subst e1 e2
    have ne := up_ne (xs := xs) (w := w) (p := i) h1 (by omega) (by omega) h.1
    have ul : (upN xs w i).length = i := by
      unfold upN
      rw [List.length_map, upto_len]
    have cp : i < cap := Nat.lt_of_lt_of_le (show i < 1000 by omega) (by decide)
    refine ⟨_, [.lst ((upN xs w i).map (fun i => W.d (.int i)) ++ [.d (.int (upAt xs w i))])], ?_, some (.d (.int i)), rfl, ?_⟩
    · simp only [b8_0, exSs, exS, ev.eq_1, ev.eq_2, ev.eq_3, ev.eq_4, ev.eq_5, ev.eq_6, ev.eq_7, ev.eq_8, ev.eq_9, ev.eq_10, ev.eq_11, ev.eq_12, ev.eq_13, ev.eq_14, ev.eq_15, ev.eq_16, ev.eq_17, ev.eq_18, ev.eq_19, ev.eq_21, ev.eq_22, ev.eq_23, ev.eq_24, ev.eq_25, ev.eq_26, ev.eq_27, ev.eq_28, ev.eq_29, evs, evO, evB, evC, evi, obO, obL, obI, obP, obS, obLS, obIS, Wl.ret, retB, dat, dats, views, view, startW, fin, put, putAll, setAll, wipeW, List.map_cons, List.map_nil, List.length_cons, List.length_nil, List.cons_append, List.nil_append, Nat.reduceAdd, Nat.reduceSub, Nat.reduceEqDiff, List.replicate_succ, List.replicate_zero, List.getElem?_cons_zero, List.getElem?_cons_succ, List.set_cons_zero, List.set_cons_succ, Option.map_some, len_LI, len_list, add_int, sub_int, mod_int, fdv_int, mul_int, pow_int, lt_int, le_int, gt_int, ge_int, eq_int, ne_int, eq_LI, ne_LI, inn_LI, nin_LI, sli_LI, sub_LI, seq_LI, cmpW_d, is_bool, isn_bool, Bool.not_true, Bool.not_false, beq_self_eq_true, ite_true, if_true, Bool.false_eq_true, if_false, reduceIte, Dw_frz, frz_0, frz_VL, ne_bool, eq_bool, sorted_LI, seq_VL, eq_VL, ne_VL, pair_0, pair_1, len_VL, newL_f, onlyL_LI, mthO_index, max2_int, min2_int, Dw_get, Dw_set, Dw_app, Dw_len, isiW_d, isi_int_int, isi_int_bool, isi_int_list, isi_int_tuple, isi_int_str, isi_int_none, isi_int_LI, isi_int_VL, isi_bool_int, isi_bool_bool, isi_bool_list, isi_bool_tuple, isi_bool_str, isi_bool_none, isi_bool_LI, isi_bool_VL, isi_list_int, isi_list_bool, isi_list_list, isi_list_tuple, isi_list_str, isi_list_none, isi_list_LI, isi_list_VL, isi_tuple_int, isi_tuple_bool, isi_tuple_list, isi_tuple_tuple, isi_tuple_str, isi_tuple_none, isi_tuple_LI, isi_tuple_VL, isi_str_int, isi_str_bool, isi_str_list, isi_str_tuple, isi_str_str, isi_str_none, isi_str_LI, isi_str_VL, decide_true, decide_false, Bool.and_true, Bool.and_false, Bool.true_and, Bool.false_and, Bool.or_true, Bool.or_false, reduceCtorEq, max_LI ne, List.length_map, ul, cp]
      rfl
    · unfold upN
      rw [upto_succ, List.map_append, List.map_append]
      rfl
  rw [List.length_map, upto_len] at e2
  subst e2
  refine run_ret (fi := i8) rfl rfl ?_
  simp only [i8, startW, List.map_cons, List.map_nil, List.length_cons, List.length_nil, Nat.reduceAdd, Nat.reduceSub, List.replicate_succ, List.replicate_zero, List.cons_append, List.nil_append]
  apply Eq.trans
  · apply exSs_cons
    (simp only [exSs, exS, ev.eq_1, ev.eq_2, ev.eq_3, ev.eq_4, ev.eq_5, ev.eq_6, ev.eq_7, ev.eq_8, ev.eq_9, ev.eq_10, ev.eq_11, ev.eq_12, ev.eq_13, ev.eq_14, ev.eq_15, ev.eq_16, ev.eq_17, ev.eq_18, ev.eq_19, ev.eq_21, ev.eq_22, ev.eq_23, ev.eq_24, ev.eq_25, ev.eq_26, ev.eq_27, ev.eq_28, ev.eq_29, evs, evO, evB, evC, evi, obO, obL, obI, obP, obS, obLS, obIS, Wl.ret, retB, dat, dats, views, view, startW, fin, put, putAll, setAll, wipeW, List.map_cons, List.map_nil, List.length_cons, List.length_nil, List.cons_append, List.nil_append, Nat.reduceAdd, Nat.reduceSub, Nat.reduceEqDiff, List.replicate_succ, List.replicate_zero, List.getElem?_cons_zero, List.getElem?_cons_succ, List.set_cons_zero, List.set_cons_succ, Option.map_some, len_LI, len_list, add_int, sub_int, mod_int, fdv_int, mul_int, pow_int, lt_int, le_int, gt_int, ge_int, eq_int, ne_int, eq_LI, ne_LI, inn_LI, nin_LI, sli_LI, sub_LI, seq_LI, cmpW_d, is_bool, isn_bool, Bool.not_true, Bool.not_false, beq_self_eq_true, ite_true, if_true, Bool.false_eq_true, if_false, reduceIte, Dw_frz, frz_0, frz_VL, ne_bool, eq_bool, sorted_LI, seq_VL, eq_VL, ne_VL, pair_0, pair_1, len_VL, newL_f, onlyL_LI, mthO_index, max2_int, min2_int, Dw_get, Dw_set, Dw_app, Dw_len, isiW_d, isi_int_int, isi_int_bool, isi_int_list, isi_int_tuple, isi_int_str, isi_int_none, isi_int_LI, isi_int_VL, isi_bool_int, isi_bool_bool, isi_bool_list, isi_bool_tuple, isi_bool_str, isi_bool_none, isi_bool_LI, isi_bool_VL, isi_list_int, isi_list_bool, isi_list_list, isi_list_tuple, isi_list_str, isi_list_none, isi_list_LI, isi_list_VL, isi_tuple_int, isi_tuple_bool, isi_tuple_list, isi_tuple_tuple, isi_tuple_str, isi_tuple_none, isi_tuple_LI, isi_tuple_VL, isi_str_int, isi_str_bool, isi_str_list, isi_str_tuple, isi_str_str, isi_str_none, isi_str_LI, isi_str_VL, decide_true, decide_false, Bool.and_true, Bool.and_false, Bool.true_and, Bool.false_and, Bool.or_true, Bool.or_false, reduceCtorEq, c0]) <;> rfl
  apply Eq.trans
  · apply exSs_cons
    apply exS_for
    · (simp only [exSs, exS, ev.eq_1, ev.eq_2, ev.eq_3, ev.eq_4, ev.eq_5, ev.eq_6, ev.eq_7, ev.eq_8, ev.eq_9, ev.eq_10, ev.eq_11, ev.eq_12, ev.eq_13, ev.eq_14, ev.eq_15, ev.eq_16, ev.eq_17, ev.eq_18, ev.eq_19, ev.eq_21, ev.eq_22, ev.eq_23, ev.eq_24, ev.eq_25, ev.eq_26, ev.eq_27, ev.eq_28, ev.eq_29, evs, evO, evB, evC, evi, obO, obL, obI, obP, obS, obLS, obIS, Wl.ret, retB, dat, dats, views, view, startW, fin, put, putAll, setAll, wipeW, List.map_cons, List.map_nil, List.length_cons, List.length_nil, List.cons_append, List.nil_append, Nat.reduceAdd, Nat.reduceSub, Nat.reduceEqDiff, List.replicate_succ, List.replicate_zero, List.getElem?_cons_zero, List.getElem?_cons_succ, List.set_cons_zero, List.set_cons_succ, Option.map_some, len_LI, len_list, add_int, sub_int, mod_int, fdv_int, mul_int, pow_int, lt_int, le_int, gt_int, ge_int, eq_int, ne_int, eq_LI, ne_LI, inn_LI, nin_LI, sli_LI, sub_LI, seq_LI, cmpW_d, is_bool, isn_bool, Bool.not_true, Bool.not_false, beq_self_eq_true, ite_true, if_true, Bool.false_eq_true, if_false, reduceIte, Dw_frz, frz_0, frz_VL, ne_bool, eq_bool, sorted_LI, seq_VL, eq_VL, ne_VL, pair_0, pair_1, len_VL, newL_f, onlyL_LI, mthO_index, max2_int, min2_int, Dw_get, Dw_set, Dw_app, Dw_len, isiW_d, isi_int_int, isi_int_bool, isi_int_list, isi_int_tuple, isi_int_str, isi_int_none, isi_int_LI, isi_int_VL, isi_bool_int, isi_bool_bool, isi_bool_list, isi_bool_tuple, isi_bool_str, isi_bool_none, isi_bool_LI, isi_bool_VL, isi_list_int, isi_list_bool, isi_list_list, isi_list_tuple, isi_list_str, isi_list_none, isi_list_LI, isi_list_VL, isi_tuple_int, isi_tuple_bool, isi_tuple_list, isi_tuple_tuple, isi_tuple_str, isi_tuple_none, isi_tuple_LI, isi_tuple_VL, isi_str_int, isi_str_bool, isi_str_list, isi_str_tuple, isi_str_str, isi_str_none, isi_str_LI, isi_str_VL, decide_true, decide_false, Bool.and_true, Bool.and_false, Bool.true_and, Bool.false_and, Bool.or_true, Bool.or_false, reduceCtorEq, rng1 (j := (xs.length : Int) + w - 1) (by omega), show ((xs.length : Int) + w - 1).toNat = xs.length + w.toNat - 1 by omega]) <;> rfl
    · exact f1
  apply Eq.trans
  · apply exSs_cons
    (simp only [exSs, exS, ev.eq_1, ev.eq_2, ev.eq_3, ev.eq_4, ev.eq_5, ev.eq_6, ev.eq_7, ev.eq_8, ev.eq_9, ev.eq_10, ev.eq_11, ev.eq_12, ev.eq_13, ev.eq_14, ev.eq_15, ev.eq_16, ev.eq_17, ev.eq_18, ev.eq_19, ev.eq_21, ev.eq_22, ev.eq_23, ev.eq_24, ev.eq_25, ev.eq_26, ev.eq_27, ev.eq_28, ev.eq_29, evs, evO, evB, evC, evi, obO, obL, obI, obP, obS, obLS, obIS, Wl.ret, retB, dat, dats, views, view, startW, fin, put, putAll, setAll, wipeW, List.map_cons, List.map_nil, List.length_cons, List.length_nil, List.cons_append, List.nil_append, Nat.reduceAdd, Nat.reduceSub, Nat.reduceEqDiff, List.replicate_succ, List.replicate_zero, List.getElem?_cons_zero, List.getElem?_cons_succ, List.set_cons_zero, List.set_cons_succ, Option.map_some, len_LI, len_list, add_int, sub_int, mod_int, fdv_int, mul_int, pow_int, lt_int, le_int, gt_int, ge_int, eq_int, ne_int, eq_LI, ne_LI, inn_LI, nin_LI, sli_LI, sub_LI, seq_LI, cmpW_d, is_bool, isn_bool, Bool.not_true, Bool.not_false, beq_self_eq_true, ite_true, if_true, Bool.false_eq_true, if_false, reduceIte, Dw_frz, frz_0, frz_VL, ne_bool, eq_bool, sorted_LI, seq_VL, eq_VL, ne_VL, pair_0, pair_1, len_VL, newL_f, onlyL_LI, mthO_index, max2_int, min2_int, Dw_get, Dw_set, Dw_app, Dw_len, isiW_d, isi_int_int, isi_int_bool, isi_int_list, isi_int_tuple, isi_int_str, isi_int_none, isi_int_LI, isi_int_VL, isi_bool_int, isi_bool_bool, isi_bool_list, isi_bool_tuple, isi_bool_str, isi_bool_none, isi_bool_LI, isi_bool_VL, isi_list_int, isi_list_bool, isi_list_list, isi_list_tuple, isi_list_str, isi_list_none, isi_list_LI, isi_list_VL, isi_tuple_int, isi_tuple_bool, isi_tuple_list, isi_tuple_tuple, isi_tuple_str, isi_tuple_none, isi_tuple_LI, isi_tuple_VL, isi_str_int, isi_str_bool, isi_str_list, isi_str_tuple, isi_str_str, isi_str_none, isi_str_LI, isi_str_VL, decide_true, decide_false, Bool.and_true, Bool.and_false, Bool.true_and, Bool.false_and, Bool.or_true, Bool.or_false, reduceCtorEq]) <;> rfl
  simp only [exSs, exS, ev.eq_1, ev.eq_2, ev.eq_3, ev.eq_4, ev.eq_5, ev.eq_6, ev.eq_7, ev.eq_8, ev.eq_9, ev.eq_10, ev.eq_11, ev.eq_12, ev.eq_13, ev.eq_14, ev.eq_15, ev.eq_16, ev.eq_17, ev.eq_18, ev.eq_19, ev.eq_21, ev.eq_22, ev.eq_23, ev.eq_24, ev.eq_25, ev.eq_26, ev.eq_27, ev.eq_28, ev.eq_29, evs, evO, evB, evC, evi, obO, obL, obI, obP, obS, obLS, obIS, Wl.ret, retB, dat, dats, views, view, startW, fin, put, putAll, setAll, wipeW, List.map_cons, List.map_nil, List.length_cons, List.length_nil, List.cons_append, List.nil_append, Nat.reduceAdd, Nat.reduceSub, Nat.reduceEqDiff, List.replicate_succ, List.replicate_zero, List.getElem?_cons_zero, List.getElem?_cons_succ, List.set_cons_zero, List.set_cons_succ, Option.map_some, len_LI, len_list, add_int, sub_int, mod_int, fdv_int, mul_int, pow_int, lt_int, le_int, gt_int, ge_int, eq_int, ne_int, eq_LI, ne_LI, inn_LI, nin_LI, sli_LI, sub_LI, seq_LI, cmpW_d, is_bool, isn_bool, Bool.not_true, Bool.not_false, beq_self_eq_true, ite_true, if_true, Bool.false_eq_true, if_false, reduceIte, Dw_frz, frz_0, frz_VL, ne_bool, eq_bool, sorted_LI, seq_VL, eq_VL, ne_VL, pair_0, pair_1, len_VL, newL_f, onlyL_LI, mthO_index, max2_int, min2_int, Dw_get, Dw_set, Dw_app, Dw_len, isiW_d, isi_int_int, isi_int_bool, isi_int_list, isi_int_tuple, isi_int_str, isi_int_none, isi_int_LI, isi_int_VL, isi_bool_int, isi_bool_bool, isi_bool_list, isi_bool_tuple, isi_bool_str, isi_bool_none, isi_bool_LI, isi_bool_VL, isi_list_int, isi_list_bool, isi_list_list, isi_list_tuple, isi_list_str, isi_list_none, isi_list_LI, isi_list_VL, isi_tuple_int, isi_tuple_bool, isi_tuple_list, isi_tuple_tuple, isi_tuple_str, isi_tuple_none, isi_tuple_LI, isi_tuple_VL, isi_str_int, isi_str_bool, isi_str_list, isi_str_tuple, isi_str_str, isi_str_none, isi_str_LI, isi_str_VL, decide_true, decide_false, Bool.and_true, Bool.and_false, Bool.true_and, Bool.false_and, Bool.or_true, Bool.or_false, reduceCtorEq]
  rfl
theorem check_origin_call {k : Nat} {M : MH} {xs : List Int} {w : Int} (h : okRow xs) (h1 : 1 ≤ w) (h2 : w + xs.length ≤ 13) (e : lowsL (upL xs w) w = xs) : callW (run T (k + 5)) 0 9 [.d (LI xs), .d (.int w)] M = some (.val (.d .none) M) := by
  have hl := List.length_pos_iff.mpr h.1
  have hu := upL_len xs w
  refine call0 (M' := []) ?_ rfl
  rw [run_eq (fi := i9) rfl rfl]
  simp only [i9, exSs, exS, ev.eq_1, ev.eq_2, ev.eq_3, ev.eq_4, ev.eq_5, ev.eq_6, ev.eq_7, ev.eq_8, ev.eq_9, ev.eq_10, ev.eq_11, ev.eq_12, ev.eq_13, ev.eq_14, ev.eq_15, ev.eq_16, ev.eq_17, ev.eq_18, ev.eq_19, ev.eq_21, ev.eq_22, ev.eq_23, ev.eq_24, ev.eq_25, ev.eq_26, ev.eq_27, ev.eq_28, ev.eq_29, evs, evO, evB, evC, evi, obO, obL, obI, obP, obS, obLS, obIS, Wl.ret, retB, dat, dats, views, view, startW, fin, put, putAll, setAll, wipeW, List.map_cons, List.map_nil, List.length_cons, List.length_nil, List.cons_append, List.nil_append, Nat.reduceAdd, Nat.reduceSub, Nat.reduceEqDiff, List.replicate_succ, List.replicate_zero, List.getElem?_cons_zero, List.getElem?_cons_succ, List.set_cons_zero, List.set_cons_succ, Option.map_some, len_LI, len_list, add_int, sub_int, mod_int, fdv_int, mul_int, pow_int, lt_int, le_int, gt_int, ge_int, eq_int, ne_int, eq_LI, ne_LI, inn_LI, nin_LI, sli_LI, sub_LI, seq_LI, cmpW_d, is_bool, isn_bool, Bool.not_true, Bool.not_false, beq_self_eq_true, ite_true, if_true, Bool.false_eq_true, if_false, reduceIte, Dw_frz, frz_0, frz_VL, ne_bool, eq_bool, sorted_LI, seq_VL, eq_VL, ne_VL, pair_0, pair_1, len_VL, newL_f, onlyL_LI, mthO_index, max2_int, min2_int, Dw_get, Dw_set, Dw_app, Dw_len, isiW_d, isi_int_int, isi_int_bool, isi_int_list, isi_int_tuple, isi_int_str, isi_int_none, isi_int_LI, isi_int_VL, isi_bool_int, isi_bool_bool, isi_bool_list, isi_bool_tuple, isi_bool_str, isi_bool_none, isi_bool_LI, isi_bool_VL, isi_list_int, isi_list_bool, isi_list_list, isi_list_tuple, isi_list_str, isi_list_none, isi_list_LI, isi_list_VL, isi_tuple_int, isi_tuple_bool, isi_tuple_list, isi_tuple_tuple, isi_tuple_str, isi_tuple_none, isi_tuple_LI, isi_tuple_VL, isi_str_int, isi_str_bool, isi_str_list, isi_str_tuple, isi_str_str, isi_str_none, isi_str_LI, isi_str_VL, decide_true, decide_false, Bool.and_true, Bool.and_false, Bool.true_and, Bool.false_and, Bool.or_true, Bool.or_false, reduceCtorEq, check_low_call h h1 h2, lowest_origin_call h h1 h2, lows_call (xs := upL xs w) h1 (by omega) (by omega), e]
theorem least_origin_call {k : Nat} {M : MH} {xs : List Int} {w : Int} (h : okRow xs) (h1 : 1 ≤ w) (h2 : w + xs.length ≤ 13) (e : lowsL (upL xs w) w = xs) : callW (run T (k + 6)) 0 10 [.d (LI xs), .d (.int w)] M = some (.val (.d (LI (upL xs w))) M) := by
  refine call0 (M' := []) ?_ rfl
  rw [run_eq (fi := i10) rfl rfl]
  simp only [i10, exSs, exS, ev.eq_1, ev.eq_2, ev.eq_3, ev.eq_4, ev.eq_5, ev.eq_6, ev.eq_7, ev.eq_8, ev.eq_9, ev.eq_10, ev.eq_11, ev.eq_12, ev.eq_13, ev.eq_14, ev.eq_15, ev.eq_16, ev.eq_17, ev.eq_18, ev.eq_19, ev.eq_21, ev.eq_22, ev.eq_23, ev.eq_24, ev.eq_25, ev.eq_26, ev.eq_27, ev.eq_28, ev.eq_29, evs, evO, evB, evC, evi, obO, obL, obI, obP, obS, obLS, obIS, Wl.ret, retB, dat, dats, views, view, startW, fin, put, putAll, setAll, wipeW, List.map_cons, List.map_nil, List.length_cons, List.length_nil, List.cons_append, List.nil_append, Nat.reduceAdd, Nat.reduceSub, Nat.reduceEqDiff, List.replicate_succ, List.replicate_zero, List.getElem?_cons_zero, List.getElem?_cons_succ, List.set_cons_zero, List.set_cons_succ, Option.map_some, len_LI, len_list, add_int, sub_int, mod_int, fdv_int, mul_int, pow_int, lt_int, le_int, gt_int, ge_int, eq_int, ne_int, eq_LI, ne_LI, inn_LI, nin_LI, sli_LI, sub_LI, seq_LI, cmpW_d, is_bool, isn_bool, Bool.not_true, Bool.not_false, beq_self_eq_true, ite_true, if_true, Bool.false_eq_true, if_false, reduceIte, Dw_frz, frz_0, frz_VL, ne_bool, eq_bool, sorted_LI, seq_VL, eq_VL, ne_VL, pair_0, pair_1, len_VL, newL_f, onlyL_LI, mthO_index, max2_int, min2_int, Dw_get, Dw_set, Dw_app, Dw_len, isiW_d, isi_int_int, isi_int_bool, isi_int_list, isi_int_tuple, isi_int_str, isi_int_none, isi_int_LI, isi_int_VL, isi_bool_int, isi_bool_bool, isi_bool_list, isi_bool_tuple, isi_bool_str, isi_bool_none, isi_bool_LI, isi_bool_VL, isi_list_int, isi_list_bool, isi_list_list, isi_list_tuple, isi_list_str, isi_list_none, isi_list_LI, isi_list_VL, isi_tuple_int, isi_tuple_bool, isi_tuple_list, isi_tuple_tuple, isi_tuple_str, isi_tuple_none, isi_tuple_LI, isi_tuple_VL, isi_str_int, isi_str_bool, isi_str_list, isi_str_tuple, isi_str_str, isi_str_none, isi_str_LI, isi_str_VL, decide_true, decide_false, Bool.and_true, Bool.and_false, Bool.true_and, Bool.false_and, Bool.or_true, Bool.or_false, reduceCtorEq, check_origin_call h h1 h2 e, lowest_origin_call h h1 h2]
theorem is_origin_call {k : Nat} {M : MH} {os xs : List Int} {w : Int} (ho : okRow os) (h : okRow xs) (h1 : 1 ≤ w) (h2 : w + xs.length ≤ 13) : callW (run T (k + 5)) 0 11 [.d (LI os), .d (LI xs), .d (.int w)] M = some (.val (.d (.bool (decide ((os.length : Int) = xs.length + w - 1 ∧ lowsL os w = xs)))) M) := by
  have hl := List.length_pos_iff.mpr h.1
  have hol := ho.2.1
  refine call0 (M' := []) ?_ rfl
  rw [run_eq (fi := i11) rfl rfl]
  by_cases e : (os.length : Int) = xs.length + w - 1
  · simp only [i11, exSs, exS, ev.eq_1, ev.eq_2, ev.eq_3, ev.eq_4, ev.eq_5, ev.eq_6, ev.eq_7, ev.eq_8, ev.eq_9, ev.eq_10, ev.eq_11, ev.eq_12, ev.eq_13, ev.eq_14, ev.eq_15, ev.eq_16, ev.eq_17, ev.eq_18, ev.eq_19, ev.eq_21, ev.eq_22, ev.eq_23, ev.eq_24, ev.eq_25, ev.eq_26, ev.eq_27, ev.eq_28, ev.eq_29, evs, evO, evB, evC, evi, obO, obL, obI, obP, obS, obLS, obIS, Wl.ret, retB, dat, dats, views, view, startW, fin, put, putAll, setAll, wipeW, List.map_cons, List.map_nil, List.length_cons, List.length_nil, List.cons_append, List.nil_append, Nat.reduceAdd, Nat.reduceSub, Nat.reduceEqDiff, List.replicate_succ, List.replicate_zero, List.getElem?_cons_zero, List.getElem?_cons_succ, List.set_cons_zero, List.set_cons_succ, Option.map_some, len_LI, len_list, add_int, sub_int, mod_int, fdv_int, mul_int, pow_int, lt_int, le_int, gt_int, ge_int, eq_int, ne_int, eq_LI, ne_LI, inn_LI, nin_LI, sli_LI, sub_LI, seq_LI, cmpW_d, is_bool, isn_bool, Bool.not_true, Bool.not_false, beq_self_eq_true, ite_true, if_true, Bool.false_eq_true, if_false, reduceIte, Dw_frz, frz_0, frz_VL, ne_bool, eq_bool, sorted_LI, seq_VL, eq_VL, ne_VL, pair_0, pair_1, len_VL, newL_f, onlyL_LI, mthO_index, max2_int, min2_int, Dw_get, Dw_set, Dw_app, Dw_len, isiW_d, isi_int_int, isi_int_bool, isi_int_list, isi_int_tuple, isi_int_str, isi_int_none, isi_int_LI, isi_int_VL, isi_bool_int, isi_bool_bool, isi_bool_list, isi_bool_tuple, isi_bool_str, isi_bool_none, isi_bool_LI, isi_bool_VL, isi_list_int, isi_list_bool, isi_list_list, isi_list_tuple, isi_list_str, isi_list_none, isi_list_LI, isi_list_VL, isi_tuple_int, isi_tuple_bool, isi_tuple_list, isi_tuple_tuple, isi_tuple_str, isi_tuple_none, isi_tuple_LI, isi_tuple_VL, isi_str_int, isi_str_bool, isi_str_list, isi_str_tuple, isi_str_str, isi_str_none, isi_str_LI, isi_str_VL, decide_true, decide_false, Bool.and_true, Bool.and_false, Bool.true_and, Bool.false_and, Bool.or_true, Bool.or_false, reduceCtorEq, check_row_call ho, check_low_call h h1 h2, decide_eq_true e, lows_call (xs := os) h1 (show w ≤ os.length by omega) (by omega), e, true_and]
  · simp only [i11, exSs, exS, ev.eq_1, ev.eq_2, ev.eq_3, ev.eq_4, ev.eq_5, ev.eq_6, ev.eq_7, ev.eq_8, ev.eq_9, ev.eq_10, ev.eq_11, ev.eq_12, ev.eq_13, ev.eq_14, ev.eq_15, ev.eq_16, ev.eq_17, ev.eq_18, ev.eq_19, ev.eq_21, ev.eq_22, ev.eq_23, ev.eq_24, ev.eq_25, ev.eq_26, ev.eq_27, ev.eq_28, ev.eq_29, evs, evO, evB, evC, evi, obO, obL, obI, obP, obS, obLS, obIS, Wl.ret, retB, dat, dats, views, view, startW, fin, put, putAll, setAll, wipeW, List.map_cons, List.map_nil, List.length_cons, List.length_nil, List.cons_append, List.nil_append, Nat.reduceAdd, Nat.reduceSub, Nat.reduceEqDiff, List.replicate_succ, List.replicate_zero, List.getElem?_cons_zero, List.getElem?_cons_succ, List.set_cons_zero, List.set_cons_succ, Option.map_some, len_LI, len_list, add_int, sub_int, mod_int, fdv_int, mul_int, pow_int, lt_int, le_int, gt_int, ge_int, eq_int, ne_int, eq_LI, ne_LI, inn_LI, nin_LI, sli_LI, sub_LI, seq_LI, cmpW_d, is_bool, isn_bool, Bool.not_true, Bool.not_false, beq_self_eq_true, ite_true, if_true, Bool.false_eq_true, if_false, reduceIte, Dw_frz, frz_0, frz_VL, ne_bool, eq_bool, sorted_LI, seq_VL, eq_VL, ne_VL, pair_0, pair_1, len_VL, newL_f, onlyL_LI, mthO_index, max2_int, min2_int, Dw_get, Dw_set, Dw_app, Dw_len, isiW_d, isi_int_int, isi_int_bool, isi_int_list, isi_int_tuple, isi_int_str, isi_int_none, isi_int_LI, isi_int_VL, isi_bool_int, isi_bool_bool, isi_bool_list, isi_bool_tuple, isi_bool_str, isi_bool_none, isi_bool_LI, isi_bool_VL, isi_list_int, isi_list_bool, isi_list_list, isi_list_tuple, isi_list_str, isi_list_none, isi_list_LI, isi_list_VL, isi_tuple_int, isi_tuple_bool, isi_tuple_list, isi_tuple_tuple, isi_tuple_str, isi_tuple_none, isi_tuple_LI, isi_tuple_VL, isi_str_int, isi_str_bool, isi_str_list, isi_str_tuple, isi_str_str, isi_str_none, isi_str_LI, isi_str_VL, decide_true, decide_false, Bool.and_true, Bool.and_false, Bool.true_and, Bool.false_and, Bool.or_true, Bool.or_false, reduceCtorEq, check_row_call ho, check_low_call h h1 h2, decide_eq_false e, e, false_and]
theorem check_origin_exc {k : Nat} {M : MH} {xs : List Int} {w : Int} (h : okRow xs) (h1 : 1 ≤ w) (h2 : w + xs.length ≤ 13) (e : lowsL (upL xs w) w ≠ xs) : callW (run T (k + 5)) 0 9 [.d (LI xs), .d (.int w)] M = some (.exc 5 M) := by
  have hl := List.length_pos_iff.mpr h.1
  have hu := upL_len xs w
  refine call0x (M' := []) ?_ rfl
  rw [run_eq (fi := i9) rfl rfl]
  simp only [i9, exSs, exS, ev.eq_1, ev.eq_2, ev.eq_3, ev.eq_4, ev.eq_5, ev.eq_6, ev.eq_7, ev.eq_8, ev.eq_9, ev.eq_10, ev.eq_11, ev.eq_12, ev.eq_13, ev.eq_14, ev.eq_15, ev.eq_16, ev.eq_17, ev.eq_18, ev.eq_19, ev.eq_21, ev.eq_22, ev.eq_23, ev.eq_24, ev.eq_25, ev.eq_26, ev.eq_27, ev.eq_28, ev.eq_29, evs, evO, evB, evC, evi, obO, obL, obI, obP, obS, obLS, obIS, Wl.ret, retB, dat, dats, views, view, startW, fin, put, putAll, setAll, wipeW, List.map_cons, List.map_nil, List.length_cons, List.length_nil, List.cons_append, List.nil_append, Nat.reduceAdd, Nat.reduceSub, Nat.reduceEqDiff, List.replicate_succ, List.replicate_zero, List.getElem?_cons_zero, List.getElem?_cons_succ, List.set_cons_zero, List.set_cons_succ, Option.map_some, len_LI, len_list, add_int, sub_int, mod_int, fdv_int, mul_int, pow_int, lt_int, le_int, gt_int, ge_int, eq_int, ne_int, eq_LI, ne_LI, inn_LI, nin_LI, sli_LI, sub_LI, seq_LI, cmpW_d, is_bool, isn_bool, Bool.not_true, Bool.not_false, beq_self_eq_true, ite_true, if_true, Bool.false_eq_true, if_false, reduceIte, Dw_frz, frz_0, frz_VL, ne_bool, eq_bool, sorted_LI, seq_VL, eq_VL, ne_VL, pair_0, pair_1, len_VL, newL_f, onlyL_LI, mthO_index, max2_int, min2_int, Dw_get, Dw_set, Dw_app, Dw_len, isiW_d, isi_int_int, isi_int_bool, isi_int_list, isi_int_tuple, isi_int_str, isi_int_none, isi_int_LI, isi_int_VL, isi_bool_int, isi_bool_bool, isi_bool_list, isi_bool_tuple, isi_bool_str, isi_bool_none, isi_bool_LI, isi_bool_VL, isi_list_int, isi_list_bool, isi_list_list, isi_list_tuple, isi_list_str, isi_list_none, isi_list_LI, isi_list_VL, isi_tuple_int, isi_tuple_bool, isi_tuple_list, isi_tuple_tuple, isi_tuple_str, isi_tuple_none, isi_tuple_LI, isi_tuple_VL, isi_str_int, isi_str_bool, isi_str_list, isi_str_tuple, isi_str_str, isi_str_none, isi_str_LI, isi_str_VL, decide_true, decide_false, Bool.and_true, Bool.and_false, Bool.true_and, Bool.false_and, Bool.or_true, Bool.or_false, reduceCtorEq, check_low_call h h1 h2, lowest_origin_call h h1 h2, lows_call (xs := upL xs w) h1 (by omega) (by omega), decide_eq_false e]
  rfl
theorem least_origin_exc {k : Nat} {M : MH} {xs : List Int} {w : Int} (h : okRow xs) (h1 : 1 ≤ w) (h2 : w + xs.length ≤ 13) (e : lowsL (upL xs w) w ≠ xs) : callW (run T (k + 6)) 0 10 [.d (LI xs), .d (.int w)] M = some (.exc 5 M) := by
  refine call0x (M' := []) ?_ rfl
  rw [run_eq (fi := i10) rfl rfl]
  simp only [i10, exSs, exS, ev.eq_1, ev.eq_2, ev.eq_3, ev.eq_4, ev.eq_5, ev.eq_6, ev.eq_7, ev.eq_8, ev.eq_9, ev.eq_10, ev.eq_11, ev.eq_12, ev.eq_13, ev.eq_14, ev.eq_15, ev.eq_16, ev.eq_17, ev.eq_18, ev.eq_19, ev.eq_21, ev.eq_22, ev.eq_23, ev.eq_24, ev.eq_25, ev.eq_26, ev.eq_27, ev.eq_28, ev.eq_29, evs, evO, evB, evC, evi, obO, obL, obI, obP, obS, obLS, obIS, Wl.ret, retB, dat, dats, views, view, startW, fin, put, putAll, setAll, wipeW, List.map_cons, List.map_nil, List.length_cons, List.length_nil, List.cons_append, List.nil_append, Nat.reduceAdd, Nat.reduceSub, Nat.reduceEqDiff, List.replicate_succ, List.replicate_zero, List.getElem?_cons_zero, List.getElem?_cons_succ, List.set_cons_zero, List.set_cons_succ, Option.map_some, len_LI, len_list, add_int, sub_int, mod_int, fdv_int, mul_int, pow_int, lt_int, le_int, gt_int, ge_int, eq_int, ne_int, eq_LI, ne_LI, inn_LI, nin_LI, sli_LI, sub_LI, seq_LI, cmpW_d, is_bool, isn_bool, Bool.not_true, Bool.not_false, beq_self_eq_true, ite_true, if_true, Bool.false_eq_true, if_false, reduceIte, Dw_frz, frz_0, frz_VL, ne_bool, eq_bool, sorted_LI, seq_VL, eq_VL, ne_VL, pair_0, pair_1, len_VL, newL_f, onlyL_LI, mthO_index, max2_int, min2_int, Dw_get, Dw_set, Dw_app, Dw_len, isiW_d, isi_int_int, isi_int_bool, isi_int_list, isi_int_tuple, isi_int_str, isi_int_none, isi_int_LI, isi_int_VL, isi_bool_int, isi_bool_bool, isi_bool_list, isi_bool_tuple, isi_bool_str, isi_bool_none, isi_bool_LI, isi_bool_VL, isi_list_int, isi_list_bool, isi_list_list, isi_list_tuple, isi_list_str, isi_list_none, isi_list_LI, isi_list_VL, isi_tuple_int, isi_tuple_bool, isi_tuple_list, isi_tuple_tuple, isi_tuple_str, isi_tuple_none, isi_tuple_LI, isi_tuple_VL, isi_str_int, isi_str_bool, isi_str_list, isi_str_tuple, isi_str_str, isi_str_none, isi_str_LI, isi_str_VL, decide_true, decide_false, Bool.and_true, Bool.and_false, Bool.true_and, Bool.false_and, Bool.or_true, Bool.or_false, reduceCtorEq, check_origin_exc h h1 h2 e]
theorem true_call {k : Nat} {M : MH} {a b : Bool} : callW (run T (k + 1)) 0 23 [.d (.bool a), .d (.bool b)] M = some (.val (.d (.bool (a == b))) M) := by
  refine call0 (M' := []) ?_ rfl
  rw [run_eq (fi := i23) rfl rfl]
  simp only [i23, exSs, exS, ev.eq_1, ev.eq_2, ev.eq_3, ev.eq_4, ev.eq_5, ev.eq_6, ev.eq_7, ev.eq_8, ev.eq_9, ev.eq_10, ev.eq_11, ev.eq_12, ev.eq_13, ev.eq_14, ev.eq_15, ev.eq_16, ev.eq_17, ev.eq_18, ev.eq_19, ev.eq_21, ev.eq_22, ev.eq_23, ev.eq_24, ev.eq_25, ev.eq_26, ev.eq_27, ev.eq_28, ev.eq_29, evs, evO, evB, evC, evi, obO, obL, obI, obP, obS, obLS, obIS, Wl.ret, retB, dat, dats, views, view, startW, fin, put, putAll, setAll, wipeW, List.map_cons, List.map_nil, List.length_cons, List.length_nil, List.cons_append, List.nil_append, Nat.reduceAdd, Nat.reduceSub, Nat.reduceEqDiff, List.replicate_succ, List.replicate_zero, List.getElem?_cons_zero, List.getElem?_cons_succ, List.set_cons_zero, List.set_cons_succ, Option.map_some, len_LI, len_list, add_int, sub_int, mod_int, fdv_int, mul_int, pow_int, lt_int, le_int, gt_int, ge_int, eq_int, ne_int, eq_LI, ne_LI, inn_LI, nin_LI, sli_LI, sub_LI, seq_LI, cmpW_d, is_bool, isn_bool, Bool.not_true, Bool.not_false, beq_self_eq_true, ite_true, if_true, Bool.false_eq_true, if_false, reduceIte, Dw_frz, frz_0, frz_VL, ne_bool, eq_bool, sorted_LI, seq_VL, eq_VL, ne_VL, pair_0, pair_1, len_VL, newL_f, onlyL_LI, mthO_index, max2_int, min2_int, Dw_get, Dw_set, Dw_app, Dw_len, isiW_d, isi_int_int, isi_int_bool, isi_int_list, isi_int_tuple, isi_int_str, isi_int_none, isi_int_LI, isi_int_VL, isi_bool_int, isi_bool_bool, isi_bool_list, isi_bool_tuple, isi_bool_str, isi_bool_none, isi_bool_LI, isi_bool_VL, isi_list_int, isi_list_bool, isi_list_list, isi_list_tuple, isi_list_str, isi_list_none, isi_list_LI, isi_list_VL, isi_tuple_int, isi_tuple_bool, isi_tuple_list, isi_tuple_tuple, isi_tuple_str, isi_tuple_none, isi_tuple_LI, isi_tuple_VL, isi_str_int, isi_str_bool, isi_str_list, isi_str_tuple, isi_str_str, isi_str_none, isi_str_LI, isi_str_VL, decide_true, decide_false, Bool.and_true, Bool.and_false, Bool.true_and, Bool.false_and, Bool.or_true, Bool.or_false, reduceCtorEq]
/-- all rows of a size, in order -/
def allR (m : Int) : Nat → List (List Int)
  | 0 => [[]]
  | n + 1 => (upto (m + 1).toNat).flatMap fun v => (allR m n).map (v :: ·)
def allS (m : Int) : Nat → List (List Int)
  | 0 => [[]]
  | n + 1 => (allS m n).flatMap fun r => (upto (m + 1).toNat).map fun v => r ++ [v]
theorem flatMap_map' {α β γ : Type} (f : α → β) (g : β → List γ) : ∀ xs : List α, (xs.map f).flatMap g = xs.flatMap fun x => g (f x)
  | [] => rfl
  | x :: xs => by rw [List.map_cons, List.flatMap_cons, List.flatMap_cons, flatMap_map' f g xs]
theorem map_flatMap' {α β γ : Type} (f : β → γ) (g : α → List β) : ∀ xs : List α, (xs.flatMap g).map f = xs.flatMap fun x => (g x).map f
  | [] => rfl
  | x :: xs => by rw [List.flatMap_cons, List.map_append, List.flatMap_cons, map_flatMap' f g xs]
theorem flatMap_flatMap' {α β γ : Type} (f : α → List β) (g : β → List γ) : ∀ xs : List α, (xs.flatMap f).flatMap g = xs.flatMap fun x => (f x).flatMap g
  | [] => rfl
  | x :: xs => by rw [List.flatMap_cons, List.flatMap_append, List.flatMap_cons, flatMap_flatMap' f g xs]
theorem allS_eq (m : Int) : ∀ n, allS m n = allR m n
  | 0 => rfl
  | n + 1 => by
    have key : ∀ n, (allR m n).flatMap (fun r => (upto (m + 1).toNat).map fun v => r ++ [v]) = allR m (n + 1) := by
      intro n
      induction n with
      | zero =>
        show ((upto (m + 1).toNat).map fun v => [v]) ++ [] = (upto (m + 1).toNat).flatMap fun v => [[v]]
        rw [List.append_nil]
        induction upto (m + 1).toNat with
        | nil => rfl
        | cons x xs ih => rw [List.map_cons, List.flatMap_cons, ih]; rfl
      | succ n ih =>
        show (((upto (m + 1).toNat).flatMap fun v => (allR m n).map (v :: ·)).flatMap fun r => (upto (m + 1).toNat).map fun v => r ++ [v]) = _
        rw [flatMap_flatMap']
        show _ = (upto (m + 1).toNat).flatMap fun v => (allR m (n + 1)).map (v :: ·)
        rw [← ih]
        refine congrArg (fun g => List.flatMap g (upto (m + 1).toNat)) (funext fun v => ?_)
        rw [flatMap_map', map_flatMap']
        refine congrArg (fun g => List.flatMap g (allR m n)) (funext fun r => ?_)
        rw [List.map_map]
        rfl
    show (allS m n).flatMap _ = _
    rw [allS_eq m n, key]
theorem allR_len (m : Int) : ∀ n, (allR m n).length = (m + 1).toNat ^ n
  | 0 => rfl
  | n + 1 => by
    have ih := allR_len m n
    have h : ∀ xs : List Int, (xs.flatMap fun v => (allR m n).map (v :: ·)).length = xs.length * (allR m n).length := by
      intro xs
      induction xs with
      | nil => simp
      | cons x xs ih2 => rw [List.flatMap_cons, List.length_append, List.length_map, ih2, List.length_cons, Nat.succ_mul, Nat.add_comm]
    show ((upto (m + 1).toNat).flatMap fun v => (allR m n).map (v :: ·)).length = _
    rw [h, upto_len, ih, Nat.pow_succ, Nat.mul_comm]
theorem allR_mem {m : Int} : ∀ {n : Nat} {xs : List Int}, xs ∈ allR m n ↔ xs.length = n ∧ ∀ v ∈ xs, 0 ≤ v ∧ v ≤ m
  | 0, xs => by
    show xs ∈ [[]] ↔ _
    rw [List.mem_singleton]
    constructor
    · intro e
      rw [e]
      exact ⟨rfl, fun _ h => nomatch h⟩
    · intro h
      exact List.length_eq_zero_iff.mp h.1
  | n + 1, xs => by
    show xs ∈ (upto (m + 1).toNat).flatMap (fun v => (allR m n).map (v :: ·)) ↔ _
    rw [List.mem_flatMap]
    constructor
    · intro ⟨v, hv, h⟩
      obtain ⟨t, ht, rfl⟩ := List.mem_map.mp h
      obtain ⟨h1, h2⟩ := allR_mem.mp ht
      rw [upto_mem] at hv
      refine ⟨by rw [List.length_cons, h1], fun u hu => ?_⟩
      rcases List.mem_cons.mp hu with q | q
      · rw [q]
        omega
      · exact h2 u q
    · intro ⟨h1, h2⟩
      cases xs with
      | nil => cases h1
      | cons v t =>
        have hv := h2 v (.head _)
        refine ⟨v, upto_mem.mpr (by omega), List.mem_map.mpr ⟨t, allR_mem.mpr ⟨?_, fun u hu => h2 u (.tail _ hu)⟩, rfl⟩⟩
        rw [List.length_cons] at h1
        omega
theorem flat_sorted {L : List (List Int)} (hL : L.Pairwise (· < ·)) : ∀ {xs : List Int}, xs.Pairwise (· < ·) → (xs.flatMap fun v => L.map (v :: ·)).Pairwise (· < ·)
  | [], _ => List.Pairwise.nil
  | v :: xs, h => by
    rw [List.pairwise_cons] at h
    rw [List.flatMap_cons, List.pairwise_append]
    refine ⟨?_, flat_sorted hL h.2, fun a ha b hb => ?_⟩
    · rw [List.pairwise_map]
      exact hL.imp fun {a b} q => List.cons_lt_cons_iff.mpr (.inr ⟨rfl, q⟩)
    · obtain ⟨a', _, rfl⟩ := List.mem_map.mp ha
      obtain ⟨u, hu, hb⟩ := List.mem_flatMap.mp hb
      obtain ⟨b', _, rfl⟩ := List.mem_map.mp hb
      exact List.cons_lt_cons_iff.mpr (.inl (h.1 u hu))
theorem upto_strict (n : Nat) : (upto n).Pairwise (· < ·) := by
  unfold upto
  rw [List.pairwise_map]
  exact List.pairwise_lt_range.imp fun h => by omega
theorem allR_sorted (m : Int) : ∀ n, (allR m n).Pairwise (· < ·)
  | 0 => List.pairwise_singleton _ _
  | n + 1 => flat_sorted (allR_sorted m n) (upto_strict _)
/-- the places of a window at which the least row has its value -/
def fitL (r L : List Int) (w i : Int) : List Int := (span i (i + w)).filter fun p => decide (rowAt L p = rowAt r i)
theorem fit_mem {r L : List Int} {w i p : Int} : p ∈ fitL r L w i ↔ i ≤ p ∧ p < i + w ∧ rowAt L p = rowAt r i := by
  unfold fitL
  rw [List.mem_filter, span_mem, decide_eq_true_eq]
  exact ⟨fun h => ⟨h.1.1, h.1.2, h.2⟩, fun h => ⟨⟨h.1, h.2.1⟩, h.2.2⟩⟩
theorem fit_sorted (r L : List Int) (w i : Int) : (fitL r L w i).Pairwise (· < ·) := (span_sorted i (i + w)).sublist List.filter_sublist
theorem fit_len (r L : List Int) (w i : Int) : (fitL r L w i).length ≤ w.toNat := by
  unfold fitL
  refine Nat.le_trans (List.length_filter_le _ _) ?_
  rw [span_len]
  omega
theorem fit_origin {r L : List Int} {w i : Int} (h1 : 1 ≤ w) (h0 : 0 ≤ i) (hi : i + w ≤ L.length) (e : lowsL L w = r) : fitL r L w i ≠ [] := by
  obtain ⟨p, p1, p2, q⟩ := low_is (xs := L) (w := w) (i := i) h1 h0 hi
  exact List.ne_nil_of_mem (fit_mem.mpr ⟨p1, p2, by rw [← q, e]⟩)
/-- the last of them -/
def lastI (xs : List Int) : Int := (atI xs (-1)).getD 0
theorem lastI_get {xs : List Int} (h : xs ≠ []) : atI xs (-1) = some (lastI xs) := by
  unfold lastI
  rw [atI_last h, List.getLast?_eq_some_getLast h]
  rfl
theorem lastI_mem {xs : List Int} (h : xs ≠ []) : lastI xs ∈ xs := by
  unfold lastI
  rw [atI_last h, List.getLast?_eq_some_getLast h]
  exact List.getLast_mem h
theorem lastI_ge {xs : List Int} (h : xs.Pairwise (· < ·)) {p : Int} (hp : p ∈ xs) : p ≤ lastI xs := by
  have hn : xs ≠ [] := List.ne_nil_of_mem hp
  unfold lastI
  rw [atI_last hn, List.getLast?_eq_some_getLast hn]
  show p ≤ xs.getLast hn
  have e := List.dropLast_concat_getLast hn
  rw [← e, List.pairwise_append] at h
  rw [← e] at hp
  rcases List.mem_append.mp hp with q | q
  · have := h.2.2 p q _ (List.mem_singleton.mpr rfl)
    omega
  · rw [List.mem_singleton.mp q]
    exact Int.le_refl _
/-- some place of a window is among some places -/
def hasF (fs ps : List Int) : Bool := fs.any fun q => decide (q ∈ ps)
theorem hasF_iff {fs ps : List Int} : hasF fs ps = true ↔ ∃ q ∈ fs, q ∈ ps := by
  unfold hasF
  rw [List.any_eq_true]
  exact ⟨fun ⟨q, h1, h2⟩ => ⟨q, h1, of_decide_eq_true h2⟩, fun ⟨q, h1, h2⟩ => ⟨q, h1, decide_eq_true h2⟩⟩
/-- places, the last fitting ones, window by window -/
def fewN (r L : List Int) (w : Int) : Nat → List Int
  | 0 => []
  | n + 1 => if hasF (fitL r L w n) (fewN r L w n) then fewN r L w n else fewN r L w n ++ [lastI (fitL r L w n)]
theorem fewN_len (r L : List Int) (w : Int) : ∀ n, (fewN r L w n).length ≤ n
  | 0 => Nat.le_refl _
  | n + 1 => by
    have := fewN_len r L w n
    unfold fewN
    split
    · omega
    · rw [List.length_append, List.length_singleton]
      omega
theorem few_sub {r L : List Int} {w : Int} {n : Nat} {p : Int} (h : p ∈ fewN r L w n) : p ∈ fewN r L w (n + 1) := by
  unfold fewN
  split
  · exact h
  · exact List.mem_append.mpr (.inl h)
/-- each place of the fewest is the only one of some window -/
theorem few_spec {r L : List Int} {w : Int} : ∀ n : Nat, (∀ k : Nat, k < n → fitL r L w k ≠ []) → (∀ k : Nat, k < n → ∃ q ∈ fitL r L w k, q ∈ fewN r L w n) ∧ (∀ g ∈ fewN r L w n, ∃ k : Nat, k < n ∧ g ∈ fitL r L w k ∧ (∀ q ∈ fitL r L w k, q ≤ g) ∧ ∀ g' ∈ fewN r L w n, g' ∈ fitL r L w k → g' = g) ∧ (fewN r L w n).Nodup
  | 0, _ => ⟨fun k hk => absurd hk (Nat.not_lt_zero k), fun g hg => (nomatch hg), List.nodup_nil⟩
  | n + 1, hne => by
    obtain ⟨h1, h2, h3⟩ := few_spec n fun k hk => hne k (by omega)
    have hn := hne n (by omega)
    by_cases c : hasF (fitL r L w n) (fewN r L w n) = true
    · have e : fewN r L w (n + 1) = fewN r L w n := by
        rw [fewN, if_pos c]
      rw [e]
      refine ⟨fun k hk => ?_, fun g hg => ?_, h3⟩
      · by_cases hk2 : k = n
        · rw [hk2]
          exact hasF_iff.mp c
        · exact h1 k (by omega)
      · obtain ⟨k, k1, k2⟩ := h2 g hg
        exact ⟨k, by omega, k2⟩
    · have e : fewN r L w (n + 1) = fewN r L w n ++ [lastI (fitL r L w n)] := by
        rw [fewN, if_neg c]
      have c2 : ∀ q ∈ fitL r L w n, q ∉ fewN r L w n := fun q hq hq2 => c (hasF_iff.mpr ⟨q, hq, hq2⟩)
      have lm := lastI_mem hn
      rw [e]
      refine ⟨fun k hk => ?_, fun g hg => ?_, ?_⟩
      · by_cases hk2 : k = n
        · rw [hk2]
          exact ⟨_, lm, List.mem_append.mpr (.inr (List.mem_singleton.mpr rfl))⟩
        · obtain ⟨q, q1, q2⟩ := h1 k (by omega)
          exact ⟨q, q1, List.mem_append.mpr (.inl q2)⟩
      · rcases List.mem_append.mp hg with q | q
        · obtain ⟨k, k1, k2, k3, k4⟩ := h2 g q
          refine ⟨k, by omega, k2, k3, fun g' hg' hf => ?_⟩
          rcases List.mem_append.mp hg' with q' | q'
          · exact k4 g' q' hf
          · rw [List.mem_singleton.mp q'] at hf ⊢
            have f1 := fit_mem.mp hf
            have f2 := fit_mem.mp lm
            have f3 := fit_mem.mp k2
            have f4 := k3 _ hf
            exact absurd q (c2 g (fit_mem.mpr ⟨by omega, by omega, by omega⟩))
        · rw [List.mem_singleton.mp q]
          refine ⟨n, by omega, lm, fun q hq => lastI_ge (fit_sorted r L w n) hq, fun g' hg' hf => ?_⟩
          rcases List.mem_append.mp hg' with q' | q'
          · exact absurd q' (c2 g' hf)
          · exact List.mem_singleton.mp q'
      · rw [List.nodup_append]
        refine ⟨h3, by simp, fun a ha b hb => ?_⟩
        rw [List.mem_singleton.mp hb]
        intro e2
        exact c2 _ lm (e2 ▸ ha)
/-- the only fitting places, window by window -/
def ins1 (ks : List Int) (p : Int) : List Int := if p ∈ ks then ks else ks ++ [p]
def headI (xs : List Int) : Int := (atI xs 0).getD 0
def needN (r L : List Int) (w : Int) : Nat → List Int
  | 0 => []
  | n + 1 => if (fitL r L w n).length = 1 then ins1 (needN r L w n) (headI (fitL r L w n)) else needN r L w n
theorem ins1_mem {ks : List Int} {p q : Int} : q ∈ ins1 ks p ↔ q ∈ ks ∨ q = p := by
  unfold ins1
  split
  · rename_i h
    exact ⟨.inl, fun e => e.elim id fun e => e ▸ h⟩
  · rw [List.mem_append, List.mem_singleton]
theorem needN_len (r L : List Int) (w : Int) : ∀ n, (needN r L w n).length ≤ n
  | 0 => Nat.le_refl _
  | n + 1 => by
    have := needN_len r L w n
    unfold needN ins1
    split
    · split
      · omega
      · rw [List.length_append, List.length_singleton]
        omega
    · omega
theorem needN_nodup (r L : List Int) (w : Int) : ∀ n, (needN r L w n).Nodup
  | 0 => List.nodup_nil
  | n + 1 => by
    have h := needN_nodup r L w n
    unfold needN ins1
    split
    · split
      · exact h
      · rename_i c
        rw [List.nodup_append]
        refine ⟨h, by simp, fun a ha b hb => ?_⟩
        rw [List.mem_singleton.mp hb]
        exact fun e => c (e ▸ ha)
    · exact h
theorem single_iff {xs : List Int} {p : Int} : (xs.length = 1 ∧ p = headI xs) ↔ xs = [p] := by
  constructor
  · intro ⟨h1, h2⟩
    obtain ⟨a, rfl⟩ := List.length_eq_one_iff.mp h1
    rw [h2]
    rfl
  · intro e
    rw [e]
    exact ⟨rfl, rfl⟩
theorem need_mem {r L : List Int} {w p : Int} : ∀ n, p ∈ needN r L w n ↔ ∃ k : Nat, k < n ∧ fitL r L w k = [p]
  | 0 => ⟨fun h => (nomatch h), fun ⟨k, hk, _⟩ => absurd hk (Nat.not_lt_zero k)⟩
  | n + 1 => by
    have ih := need_mem (r := r) (L := L) (w := w) (p := p) n
    unfold needN
    split
    · rename_i c
      rw [ins1_mem, ih]
      constructor
      · rintro (⟨k, hk, e⟩ | e)
        · exact ⟨k, by omega, e⟩
        · exact ⟨n, by omega, single_iff.mp ⟨c, e⟩⟩
      · intro ⟨k, hk, e⟩
        by_cases hk2 : k = n
        · rw [hk2] at e
          exact .inr (single_iff.mpr e).2
        · exact .inl ⟨k, by omega, e⟩
    · rename_i c
      rw [ih]
      constructor
      · intro ⟨k, hk, e⟩
        exact ⟨k, by omega, e⟩
      · intro ⟨k, hk, e⟩
        by_cases hk2 : k = n
        · rw [hk2] at e
          exact absurd (single_iff.mpr e).1 c
        · exact ⟨k, by omega, e⟩
theorem sortI_mem_iff {y : Int} : ∀ {r : List Int}, y ∈ sortI r ↔ y ∈ r
  | [] => Iff.rfl
  | z :: r => by
    have ins : ∀ {s : List Int}, y ∈ insI z s ↔ y = z ∨ y ∈ s := by
      intro s
      induction s with
      | nil => exact ⟨fun h => .inl (List.mem_singleton.mp h), fun h => h.elim (fun e => List.mem_singleton.mpr e) fun e => nomatch e⟩
      | cons a s ih =>
        unfold insI
        split
        · exact List.mem_cons
        · rw [List.mem_cons, ih, List.mem_cons]
          constructor
          · rintro (q | q | q)
            · exact .inr (.inl q)
            · exact .inl q
            · exact .inr (.inr q)
          · rintro (q | q | q)
            · exact .inr (.inl q)
            · exact .inl q
            · exact .inr (.inr q)
    unfold sortI
    rw [ins, sortI_mem_iff, List.mem_cons]
/-- all windows have a fitting place among some -/
def enough (r L : List Int) (w : Int) (ps : List Int) : Bool := (upto r.length).all fun i => hasF (fitL r L w i) ps
theorem enough_iff {r L : List Int} {w : Int} {ps : List Int} : enough r L w ps = true ↔ ∀ k : Nat, k < r.length → ∃ q ∈ fitL r L w k, q ∈ ps := by
  unfold enough
  rw [List.all_eq_true]
  constructor
  · intro h k hk
    exact hasF_iff.mp (h k (upto_mem.mpr ⟨by omega, by omega⟩))
  · intro h i hi
    rw [upto_mem] at hi
    have := h i.toNat (by omega)
    rw [Int.toNat_of_nonneg hi.1] at this
    exact hasF_iff.mpr this
/-- a row that lies on the least one at some places and above it elsewhere -/
theorem lows_iff {r L os : List Int} {w : Int} (h1 : 1 ≤ w) (hw : w ≤ L.length) (e : lowsL L w = r) (hl : os.length = L.length) (hge : ∀ p : Int, 0 ≤ p → p < L.length → rowAt L p ≤ rowAt os p) : lowsL os w = r ↔ ∀ k : Nat, k < r.length → ∃ q ∈ fitL r L w k, rowAt os q = rowAt L q := by
  have lr : r.length = L.length - w.toNat + 1 := by rw [← e, lowsL_len]
  constructor
  · intro e2 k hk
    obtain ⟨p, p1, p2, q⟩ := low_is (xs := os) (w := w) (i := k) h1 (by omega) (by omega)
    have g1 := low_le (xs := L) (w := w) (i := k) (p := p) h1 (by omega) (by omega) p1 p2
    have g2 := hge p (by omega) (by omega)
    rw [e2] at q
    rw [e] at g1
    exact ⟨p, fit_mem.mpr ⟨p1, p2, by omega⟩, by omega⟩
  · intro h
    refine row_ext (by rw [lowsL_len]; omega) fun i h0 hi => ?_
    rw [lowsL_len] at hi
    obtain ⟨q, q1, q2⟩ := h i.toNat (by omega)
    rw [Int.toNat_of_nonneg h0] at q1
    have f := fit_mem.mp q1
    obtain ⟨p, p1, p2, g⟩ := low_is (xs := os) (w := w) (i := i) h1 h0 (by omega)
    have g1 := low_le (xs := L) (w := w) (i := i) (p := p) h1 h0 (by omega) p1 p2
    have g2 := hge p (by omega) (by omega)
    have g3 := low_le (xs := os) (w := w) (i := i) (p := q) h1 h0 (by omega) f.1 f.2.1
    rw [e] at g1
    omega
/-- a loop that ends early where a test fails -/
theorem forF_chk {step : PyData → Sl → MH → Option SO} {P : PyData → Bool} {I : Sl → Prop} {M : MH} {w : W} : ∀ {xs : List PyData} {σ : Sl}, (∀ x ∈ xs, ∀ σ, I σ → P x = true → ∃ σ', step x σ M = some (.nx σ' M) ∧ I σ') → (∀ x ∈ xs, ∀ σ, I σ → P x = false → step x σ M = some (.rt w M)) → I σ → (xs.all P = true → ∃ σ', forF step xs σ M = some (.nx σ' M) ∧ I σ') ∧ (xs.all P = false → forF step xs σ M = some (.rt w M))
  | [], σ, _, _, h => ⟨fun _ => ⟨σ, rfl, h⟩, fun e => nomatch e⟩
  | x :: xs, σ, q1, q2, h => by
    have ef : ∀ o, step x σ M = o → forF step (x :: xs) σ M = (match o with
      | some (.nx σ1 M1) => forF step xs σ1 M1
      | o => o) := fun o e => by
      rw [← e]
      rfl
    rw [List.all_cons]
    cases hp : P x with
    | true =>
      obtain ⟨σ1, e1, h1⟩ := q1 x (.head _) σ h hp
      rw [ef _ e1, Bool.true_and]
      exact forF_chk (fun y hy => q1 y (.tail _ hy)) (fun y hy => q2 y (.tail _ hy)) h1
    | false =>
      rw [ef _ (q2 x (.head _) σ h hp), Bool.false_and]
      exact ⟨fun e => (nomatch e), fun _ => rfl⟩
theorem insI_len' (x : Int) : ∀ r : List Int, (insI x r).length = r.length + 1
  | [] => rfl
  | z :: r => by
    unfold insI
    split
    · rfl
    · rw [List.length_cons, insI_len' x r, List.length_cons]
theorem sortI_len' : ∀ r : List Int, (sortI r).length = r.length
  | [] => rfl
  | z :: r => by
    unfold sortI
    rw [insI_len', sortI_len' r, List.length_cons]
theorem cut_take {xs : List Int} {a : Int} (h0 : 0 ≤ a) (h1 : a ≤ xs.length) : cutI xs none (some a) = xs.take a.toNat := by
  unfold cutI
  rw [sIx_nat' h0, show HT.sIx xs.length 0 none = 0 from rfl, List.drop_zero]
  congr 1
  omega
theorem cut_drop {xs : List Int} {a : Int} (h0 : 0 ≤ a) (h1 : a ≤ xs.length) : cutI xs (some a) none = xs.drop a.toNat := by
  unfold cutI
  rw [sIx_nat' h0, show HT.sIx xs.length xs.length none = xs.length from rfl, show min a.toNat xs.length = a.toNat by omega]
  exact List.take_of_length_le (by rw [List.length_drop]; omega)
theorem okRow_set {xs : List Int} (h : okRow xs) {a d : Int} (a0 : 0 ≤ a) (a1 : a < xs.length) (d0 : 0 ≤ d) (d1 : d ≤ 9) : okRow (xs.take a.toNat ++ [d] ++ xs.drop (a + 1).toNat) ∧ (xs.take a.toNat ++ [d] ++ xs.drop (a + 1).toNat).length = xs.length := by
  have hl : (xs.take a.toNat ++ [d] ++ xs.drop (a + 1).toNat).length = xs.length := by
    rw [List.length_append, List.length_append, List.length_take, List.length_drop, List.length_singleton]
    omega
  refine ⟨⟨fun e => ?_, by rw [hl]; exact h.2.1, fun v hv => ?_⟩, hl⟩
  · rw [e] at hl
    exact h.1 (List.length_eq_zero_iff.mp hl.symm)
  · rcases List.mem_append.mp hv with q | q
    · rcases List.mem_append.mp q with q | q
      · exact h.2.2 v (List.mem_of_mem_take q)
      · rw [List.mem_singleton.mp q]
        exact ⟨d0, d1⟩
    · exact h.2.2 v (List.mem_of_mem_drop q)
theorem rowAt_set {xs : List Int} {a d : Int} (a0 : 0 ≤ a) (a1 : a < xs.length) {p : Int} (h0 : 0 ≤ p) (h1 : p < xs.length) : rowAt (xs.take a.toNat ++ [d] ++ xs.drop (a + 1).toNat) p = if p = a then d else rowAt xs p := by
  have e : rowAt (xs.take a.toNat ++ [d] ++ xs.drop (a + 1).toNat) p = ((xs.take a.toNat ++ [d] ++ xs.drop (a + 1).toNat)[p.toNat]?).getD 0 := by
    unfold rowAt
    rw [Wl.atI_nat h0]
  have e2 : rowAt xs p = (xs[p.toNat]?).getD 0 := by
    unfold rowAt
    rw [Wl.atI_nat h0]
  have lt : (xs.take a.toNat).length = a.toNat := by rw [List.length_take]; omega
  rw [e, e2, List.append_assoc]
  by_cases c : p < a
  · rw [if_neg (by omega), List.getElem?_append_left (by omega), List.getElem?_take_of_lt (by omega)]
  · rw [List.getElem?_append_right (by omega), lt]
    by_cases c2 : p = a
    · rw [if_pos c2, show p.toNat - a.toNat = 0 by omega]
      rfl
    · rw [if_neg c2, List.getElem?_append_right (by simp; omega), List.length_singleton, List.getElem?_drop]
      congr 2
      omega
theorem sorted_ext : ∀ {xs ys : List Int}, xs.Pairwise (· < ·) → ys.Pairwise (· < ·) → (∀ v, v ∈ xs ↔ v ∈ ys) → xs = ys
  | [], [], _, _, _ => rfl
  | [], y :: ys, _, _, h => (nomatch (h y).mpr (.head _))
  | x :: xs, [], _, _, h => (nomatch (h x).mp (.head _))
  | x :: xs, y :: ys, h1, h2, h => by
    rw [List.pairwise_cons] at h1 h2
    have e : x = y := by
      rcases List.mem_cons.mp ((h x).mp (.head _)) with q | q
      · exact q
      · rcases List.mem_cons.mp ((h y).mpr (.head _)) with q2 | q2
        · exact q2.symm
        · have a := h1.1 y q2
          have b := h2.1 x q
          omega
    rw [e, sorted_ext h1.2 h2.2 fun v => ?_]
    constructor
    · intro hv
      rcases List.mem_cons.mp ((h v).mp (.tail _ hv)) with q | q
      · have := h1.1 v hv
        omega
      · exact q
    · intro hv
      rcases List.mem_cons.mp ((h v).mpr (.tail _ hv)) with q | q
      · have := h2.1 v hv
        omega
      · exact q
theorem upto_sorted (n : Nat) : (upto n).Pairwise (· < ·) := by
  unfold upto
  rw [List.pairwise_map]
  exact List.pairwise_lt_range.imp fun h => by omega
theorem only_one : ∀ {xs : List Int} {p : Int}, xs ≠ [] → xs.Pairwise (· < ·) → (∀ q ∈ xs, q = p) → xs = [p]
  | [], _, h, _, _ => absurd rfl h
  | [a], p, _, _, h => by rw [h a (.head _)]
  | a :: b :: r, p, _, hs, h => by
    rw [List.pairwise_cons] at hs
    have q1 := hs.1 b (.head _)
    have q2 := h a (.head _)
    have q3 := h b (.tail _ (.head _))
    omega
theorem lr_upto {j : Int} {M : MH} (h0 : 0 ≤ j) (h : j ≤ 1000) : lrV false false 0 j M = some (.val (.d (LI (upto j.toNat))) M) := by
  unfold lrV
  have e : (rngL 0 (j - 0).toNat) = (upto j.toNat).map .int := by
    rw [rngL_eq]
    unfold upto
    rw [List.map_map, Int.sub_zero]
    refine List.map_congr_left fun k _ => ?_
    show PyData.int (0 + (k : Int)) = PyData.int (k : Int)
    rw [Int.zero_add]
  rw [e, if_pos ⟨rfl, smallI_of (by omega), by rw [List.length_map, upto_len]; exact cap_of (by omega)⟩]
  rfl
theorem fmod9 {v : Int} (h0 : 0 ≤ v) : 0 ≤ v.fmod 9 ∧ v.fmod 9 ≤ 8 := by
  rw [Int.fmod_eq_emod_of_nonneg _ (by omega)]
  omega
theorem fitting_call {k : Nat} {M : MH} {r L : List Int} {w i : Int} (hl : L.length = r.length + w.toNat - 1) (h1 : 1 ≤ w) (hw : w ≤ 13) (h0 : 0 ≤ i) (hi : i < r.length) (hr : r.length ≤ 12) : callW (run T (k + 1)) 0 18 [.d (LI r), .d (LI L), .d (.int w), .d (.int i)] M = some (.val (.d (LI (fitL r L w i))) M) := by
  refine call0 (M' := []) ?_ rfl
  refine run_ret (fi := i18) (M' := []) rfl rfl ?_
  simp only [i18, startW, List.map_cons, List.map_nil, List.length_cons, List.length_nil, Nat.reduceAdd, Nat.reduceSub, List.replicate_succ, List.replicate_zero, List.cons_append, List.nil_append]
  rw [exSs_rt (w := .d (LI (fitL r L w i))) (M1 := [])]
  rw [exS]
  rw [ev_lcS (xs := (span i (i + w)).map .int) (ys := (fitL r L w i).map .int) (M1 := []) (M2 := [])]
  · rfl
  · simp only [exSs, exS, ev.eq_1, ev.eq_2, ev.eq_3, ev.eq_4, ev.eq_5, ev.eq_6, ev.eq_7, ev.eq_8, ev.eq_9, ev.eq_10, ev.eq_11, ev.eq_12, ev.eq_13, ev.eq_14, ev.eq_15, ev.eq_16, ev.eq_17, ev.eq_18, ev.eq_19, ev.eq_21, ev.eq_22, ev.eq_23, ev.eq_24, ev.eq_25, ev.eq_26, ev.eq_27, ev.eq_28, ev.eq_29, evs, evO, evB, evC, evi, obO, obL, obI, obP, obS, obLS, obIS, Wl.ret, retB, dat, dats, views, view, startW, fin, put, putAll, setAll, wipeW, List.map_cons, List.map_nil, List.length_cons, List.length_nil, List.cons_append, List.nil_append, Nat.reduceAdd, Nat.reduceSub, Nat.reduceEqDiff, List.replicate_succ, List.replicate_zero, List.getElem?_cons_zero, List.getElem?_cons_succ, List.set_cons_zero, List.set_cons_succ, Option.map_some, len_LI, len_list, add_int, sub_int, mod_int, fdv_int, mul_int, pow_int, lt_int, le_int, gt_int, ge_int, eq_int, ne_int, eq_LI, ne_LI, inn_LI, nin_LI, sli_LI, sub_LI, seq_LI, cmpW_d, is_bool, isn_bool, Bool.not_true, Bool.not_false, beq_self_eq_true, ite_true, if_true, Bool.false_eq_true, if_false, reduceIte, Dw_frz, frz_0, frz_VL, ne_bool, eq_bool, sorted_LI, seq_VL, eq_VL, ne_VL, pair_0, pair_1, len_VL, newL_f, onlyL_LI, mthO_index, max2_int, min2_int, Dw_get, Dw_set, Dw_app, Dw_len, isiW_d, isi_int_int, isi_int_bool, isi_int_list, isi_int_tuple, isi_int_str, isi_int_none, isi_int_LI, isi_int_VL, isi_bool_int, isi_bool_bool, isi_bool_list, isi_bool_tuple, isi_bool_str, isi_bool_none, isi_bool_LI, isi_bool_VL, isi_list_int, isi_list_bool, isi_list_list, isi_list_tuple, isi_list_str, isi_list_none, isi_list_LI, isi_list_VL, isi_tuple_int, isi_tuple_bool, isi_tuple_list, isi_tuple_tuple, isi_tuple_str, isi_tuple_none, isi_tuple_LI, isi_tuple_VL, isi_str_int, isi_str_bool, isi_str_list, isi_str_tuple, isi_str_str, isi_str_none, isi_str_LI, isi_str_VL, decide_true, decide_false, Bool.and_true, Bool.and_false, Bool.true_and, Bool.false_and, Bool.or_true, Bool.or_false, reduceCtorEq, rng2 (i := i) (j := i + w) (by omega) (by omega)]
  · refine lcF_filter fun p hp => ?_
    rw [span_mem] at hp
    simp only [exSs, exS, ev.eq_1, ev.eq_2, ev.eq_3, ev.eq_4, ev.eq_5, ev.eq_6, ev.eq_7, ev.eq_8, ev.eq_9, ev.eq_10, ev.eq_11, ev.eq_12, ev.eq_13, ev.eq_14, ev.eq_15, ev.eq_16, ev.eq_17, ev.eq_18, ev.eq_19, ev.eq_21, ev.eq_22, ev.eq_23, ev.eq_24, ev.eq_25, ev.eq_26, ev.eq_27, ev.eq_28, ev.eq_29, evs, evO, evB, evC, evi, obO, obL, obI, obP, obS, obLS, obIS, Wl.ret, retB, dat, dats, views, view, startW, fin, put, putAll, setAll, wipeW, List.map_cons, List.map_nil, List.length_cons, List.length_nil, List.cons_append, List.nil_append, Nat.reduceAdd, Nat.reduceSub, Nat.reduceEqDiff, List.replicate_succ, List.replicate_zero, List.getElem?_cons_zero, List.getElem?_cons_succ, List.set_cons_zero, List.set_cons_succ, Option.map_some, len_LI, len_list, add_int, sub_int, mod_int, fdv_int, mul_int, pow_int, lt_int, le_int, gt_int, ge_int, eq_int, ne_int, eq_LI, ne_LI, inn_LI, nin_LI, sli_LI, sub_LI, seq_LI, cmpW_d, is_bool, isn_bool, Bool.not_true, Bool.not_false, beq_self_eq_true, ite_true, if_true, Bool.false_eq_true, if_false, reduceIte, Dw_frz, frz_0, frz_VL, ne_bool, eq_bool, sorted_LI, seq_VL, eq_VL, ne_VL, pair_0, pair_1, len_VL, newL_f, onlyL_LI, mthO_index, max2_int, min2_int, Dw_get, Dw_set, Dw_app, Dw_len, isiW_d, isi_int_int, isi_int_bool, isi_int_list, isi_int_tuple, isi_int_str, isi_int_none, isi_int_LI, isi_int_VL, isi_bool_int, isi_bool_bool, isi_bool_list, isi_bool_tuple, isi_bool_str, isi_bool_none, isi_bool_LI, isi_bool_VL, isi_list_int, isi_list_bool, isi_list_list, isi_list_tuple, isi_list_str, isi_list_none, isi_list_LI, isi_list_VL, isi_tuple_int, isi_tuple_bool, isi_tuple_list, isi_tuple_tuple, isi_tuple_str, isi_tuple_none, isi_tuple_LI, isi_tuple_VL, isi_str_int, isi_str_bool, isi_str_list, isi_str_tuple, isi_str_str, isi_str_none, isi_str_LI, isi_str_VL, decide_true, decide_false, Bool.and_true, Bool.and_false, Bool.true_and, Bool.false_and, Bool.or_true, Bool.or_false, reduceCtorEq, rowAt_get (xs := L) (p := p) (by omega) (by omega), rowAt_get (xs := r) (p := i) h0 hi]
    cases decide (rowAt L p = rowAt r i) <;> rfl
  · rw [List.length_map]
    have := fit_len r L w i
    exact cap_of (by omega)
theorem hasF_ev {cf : CF} {e : IE} {fs ps : List Int} {i : Nat} {σ : Sl} {M : MH} (hl : fs.length ≤ 1000) (h : ∀ q : Int, ∃ σ1, put [i] (.int q) (wipeW σ [i]) = some σ1 ∧ ev cf e σ1 M = some (.val (.d (.bool (decide (q ∈ ps)))) M)) {it : II} (hi : evi cf it σ M = some (.val (fs.map .int) M)) : ev cf (.blt .any false (.cons (.lc false [i] it [i] .nil e) .nil)) σ M = some (.val (.d (.bool (hasF fs ps))) M) := by
  have lc : ev cf (.lc false [i] it [i] .nil e) σ M = some (.val (.d (.list ((fs.map fun q => decide (q ∈ ps)).map .bool))) M) := by
    rw [ev_lcS (xs := fs.map .int) (ys := fs.map fun q => .bool (decide (q ∈ ps))) (M1 := M) (M2 := M) hi]
    · rw [List.map_map]
      rfl
    · refine lcF_map fun q _ => ?_
      obtain ⟨σ1, e1, e2⟩ := h q
      simp only [e1, evC, e2]
    · rw [List.length_map]
      exact cap_of hl
  simp only [exSs, exS, ev.eq_1, ev.eq_2, ev.eq_3, ev.eq_4, ev.eq_5, ev.eq_6, ev.eq_7, ev.eq_8, ev.eq_9, ev.eq_10, ev.eq_11, ev.eq_12, ev.eq_13, ev.eq_14, ev.eq_15, ev.eq_16, ev.eq_17, ev.eq_18, ev.eq_19, ev.eq_21, ev.eq_22, ev.eq_23, ev.eq_24, ev.eq_25, ev.eq_26, ev.eq_27, ev.eq_28, ev.eq_29, evs, evO, evB, evC, evi, obO, obL, obI, obP, obS, obLS, obIS, Wl.ret, retB, dat, dats, views, view, startW, fin, put, putAll, setAll, wipeW, List.map_cons, List.map_nil, List.length_cons, List.length_nil, List.cons_append, List.nil_append, Nat.reduceAdd, Nat.reduceSub, Nat.reduceEqDiff, List.replicate_succ, List.replicate_zero, List.getElem?_cons_zero, List.getElem?_cons_succ, List.set_cons_zero, List.set_cons_succ, Option.map_some, len_LI, len_list, add_int, sub_int, mod_int, fdv_int, mul_int, pow_int, lt_int, le_int, gt_int, ge_int, eq_int, ne_int, eq_LI, ne_LI, inn_LI, nin_LI, sli_LI, sub_LI, seq_LI, cmpW_d, is_bool, isn_bool, Bool.not_true, Bool.not_false, beq_self_eq_true, ite_true, if_true, Bool.false_eq_true, if_false, reduceIte, Dw_frz, frz_0, frz_VL, ne_bool, eq_bool, sorted_LI, seq_VL, eq_VL, ne_VL, pair_0, pair_1, len_VL, newL_f, onlyL_LI, mthO_index, max2_int, min2_int, Dw_get, Dw_set, Dw_app, Dw_len, isiW_d, isi_int_int, isi_int_bool, isi_int_list, isi_int_tuple, isi_int_str, isi_int_none, isi_int_LI, isi_int_VL, isi_bool_int, isi_bool_bool, isi_bool_list, isi_bool_tuple, isi_bool_str, isi_bool_none, isi_bool_LI, isi_bool_VL, isi_list_int, isi_list_bool, isi_list_list, isi_list_tuple, isi_list_str, isi_list_none, isi_list_LI, isi_list_VL, isi_tuple_int, isi_tuple_bool, isi_tuple_list, isi_tuple_tuple, isi_tuple_str, isi_tuple_none, isi_tuple_LI, isi_tuple_VL, isi_str_int, isi_str_bool, isi_str_list, isi_str_tuple, isi_str_str, isi_str_none, isi_str_LI, isi_str_VL, decide_true, decide_false, Bool.and_true, Bool.and_false, Bool.true_and, Bool.false_and, Bool.or_true, Bool.or_false, reduceCtorEq, lc, any_LB]
  unfold hasF
  rw [List.any_map]
  rfl
theorem enough_call {k : Nat} {M : MH} {r ps : List Int} {w : Int} (h : okRow r) (h1 : 1 ≤ w) (h2 : w + r.length ≤ 13) (e : lowsL (upL r w) w = r) (hp : ∀ p ∈ ps, 0 ≤ p ∧ p < (r.length : Int) + w - 1) (hpl : ps.length ≤ 1000) : callW (run T (k + 6)) 0 19 [.d (LI r), .d (.int w), .d (LI ps)] M = some (.val (.d (.bool (enough r (upL r w) w ps))) M) := by
  have hl := upL_len r w
  have h12 := h.2.1
  have a1 : ∀ {M : MH}, ev (run T (k + 5)) (.lc false [6] (.seq 0 (.var 2)) [6] .nil (.call 0 0 (.cons (.var 6) (.cons (.cst (.int 0)) (.cons (.bin .sub (.var 3) (.cst (.int 1))) .nil))))) [some (.d (LI r)), some (.d (.int w)), some (.d (LI ps)), some (.d (.int ((r.length : Int) + w - 1))), none, none, none] M = some (.val (.d (.list ((ps.map fun _ => true).map .bool))) M) := by
    intro M
    rw [ev_lcS (xs := ps.map .int) (ys := ps.map fun _ => .bool true) (M1 := M) (M2 := M)]
    · rw [List.map_map]
      rfl
    · simp only [exSs, exS, ev.eq_1, ev.eq_2, ev.eq_3, ev.eq_4, ev.eq_5, ev.eq_6, ev.eq_7, ev.eq_8, ev.eq_9, ev.eq_10, ev.eq_11, ev.eq_12, ev.eq_13, ev.eq_14, ev.eq_15, ev.eq_16, ev.eq_17, ev.eq_18, ev.eq_19, ev.eq_21, ev.eq_22, ev.eq_23, ev.eq_24, ev.eq_25, ev.eq_26, ev.eq_27, ev.eq_28, ev.eq_29, evs, evO, evB, evC, evi, obO, obL, obI, obP, obS, obLS, obIS, Wl.ret, retB, dat, dats, views, view, startW, fin, put, putAll, setAll, wipeW, List.map_cons, List.map_nil, List.length_cons, List.length_nil, List.cons_append, List.nil_append, Nat.reduceAdd, Nat.reduceSub, Nat.reduceEqDiff, List.replicate_succ, List.replicate_zero, List.getElem?_cons_zero, List.getElem?_cons_succ, List.set_cons_zero, List.set_cons_succ, Option.map_some, len_LI, len_list, add_int, sub_int, mod_int, fdv_int, mul_int, pow_int, lt_int, le_int, gt_int, ge_int, eq_int, ne_int, eq_LI, ne_LI, inn_LI, nin_LI, sli_LI, sub_LI, seq_LI, cmpW_d, is_bool, isn_bool, Bool.not_true, Bool.not_false, beq_self_eq_true, ite_true, if_true, Bool.false_eq_true, if_false, reduceIte, Dw_frz, frz_0, frz_VL, ne_bool, eq_bool, sorted_LI, seq_VL, eq_VL, ne_VL, pair_0, pair_1, len_VL, newL_f, onlyL_LI, mthO_index, max2_int, min2_int, Dw_get, Dw_set, Dw_app, Dw_len, isiW_d, isi_int_int, isi_int_bool, isi_int_list, isi_int_tuple, isi_int_str, isi_int_none, isi_int_LI, isi_int_VL, isi_bool_int, isi_bool_bool, isi_bool_list, isi_bool_tuple, isi_bool_str, isi_bool_none, isi_bool_LI, isi_bool_VL, isi_list_int, isi_list_bool, isi_list_list, isi_list_tuple, isi_list_str, isi_list_none, isi_list_LI, isi_list_VL, isi_tuple_int, isi_tuple_bool, isi_tuple_list, isi_tuple_tuple, isi_tuple_str, isi_tuple_none, isi_tuple_LI, isi_tuple_VL, isi_str_int, isi_str_bool, isi_str_list, isi_str_tuple, isi_str_str, isi_str_none, isi_str_LI, isi_str_VL, decide_true, decide_false, Bool.and_true, Bool.and_false, Bool.true_and, Bool.false_and, Bool.or_true, Bool.or_false, reduceCtorEq]
    · refine lcF_map fun v hv => ?_
      have q := hp v hv
      simp only [exSs, exS, ev.eq_1, ev.eq_2, ev.eq_3, ev.eq_4, ev.eq_5, ev.eq_6, ev.eq_7, ev.eq_8, ev.eq_9, ev.eq_10, ev.eq_11, ev.eq_12, ev.eq_13, ev.eq_14, ev.eq_15, ev.eq_16, ev.eq_17, ev.eq_18, ev.eq_19, ev.eq_21, ev.eq_22, ev.eq_23, ev.eq_24, ev.eq_25, ev.eq_26, ev.eq_27, ev.eq_28, ev.eq_29, evs, evO, evB, evC, evi, obO, obL, obI, obP, obS, obLS, obIS, Wl.ret, retB, dat, dats, views, view, startW, fin, put, putAll, setAll, wipeW, List.map_cons, List.map_nil, List.length_cons, List.length_nil, List.cons_append, List.nil_append, Nat.reduceAdd, Nat.reduceSub, Nat.reduceEqDiff, List.replicate_succ, List.replicate_zero, List.getElem?_cons_zero, List.getElem?_cons_succ, List.set_cons_zero, List.set_cons_succ, Option.map_some, len_LI, len_list, add_int, sub_int, mod_int, fdv_int, mul_int, pow_int, lt_int, le_int, gt_int, ge_int, eq_int, ne_int, eq_LI, ne_LI, inn_LI, nin_LI, sli_LI, sub_LI, seq_LI, cmpW_d, is_bool, isn_bool, Bool.not_true, Bool.not_false, beq_self_eq_true, ite_true, if_true, Bool.false_eq_true, if_false, reduceIte, Dw_frz, frz_0, frz_VL, ne_bool, eq_bool, sorted_LI, seq_VL, eq_VL, ne_VL, pair_0, pair_1, len_VL, newL_f, onlyL_LI, mthO_index, max2_int, min2_int, Dw_get, Dw_set, Dw_app, Dw_len, isiW_d, isi_int_int, isi_int_bool, isi_int_list, isi_int_tuple, isi_int_str, isi_int_none, isi_int_LI, isi_int_VL, isi_bool_int, isi_bool_bool, isi_bool_list, isi_bool_tuple, isi_bool_str, isi_bool_none, isi_bool_LI, isi_bool_VL, isi_list_int, isi_list_bool, isi_list_list, isi_list_tuple, isi_list_str, isi_list_none, isi_list_LI, isi_list_VL, isi_tuple_int, isi_tuple_bool, isi_tuple_list, isi_tuple_tuple, isi_tuple_str, isi_tuple_none, isi_tuple_LI, isi_tuple_VL, isi_str_int, isi_str_bool, isi_str_list, isi_str_tuple, isi_str_str, isi_str_none, isi_str_LI, isi_str_VL, decide_true, decide_false, Bool.and_true, Bool.and_false, Bool.true_and, Bool.false_and, Bool.or_true, Bool.or_false, reduceCtorEq, is_int_call, decide_eq_true (show 0 ≤ v ∧ v ≤ (r.length : Int) + w - 1 - 1 by omega)]
    · rw [List.length_map]
      exact cap_of hpl
  have all1 : ∀ l : List Int, ((l.map fun _ => true).all id) = true := fun l => List.all_eq_true.mpr fun b hb => by
    obtain ⟨_, _, rfl⟩ := List.mem_map.mp hb
    rfl
  have ha : ∀ (v6 : Option W) (i : Int), 0 ≤ i → i < r.length → ev (run T (k + 5)) (.blt .any false (.cons (.lc false [6] (.seq 0 (.call 0 18 (.cons (.var 0) (.cons (.var 4) (.cons (.var 1) (.cons (.var 5) .nil)))))) [6] .nil (.cmp .inn (.var 6) (.var 2))) .nil)) [some (.d (LI r)), some (.d (.int w)), some (.d (LI ps)), some (.d (.int ((r.length : Int) + w - 1))), some (.d (LI (upL r w))), some (.d (.int i)), v6] [] = some (.val (.d (.bool (hasF (fitL r (upL r w) w i) ps))) []) := fun v6 i i0 i1 => by
    have g := fitting_call (k := k + 4) (M := []) hl h1 (show w ≤ 13 by omega) i0 i1 h12
    have fl := fit_len r (upL r w) w i
    refine hasF_ev (by omega) (fun q => ⟨_, rfl, ?_⟩) ?_
    · simp only [exSs, exS, ev.eq_1, ev.eq_2, ev.eq_3, ev.eq_4, ev.eq_5, ev.eq_6, ev.eq_7, ev.eq_8, ev.eq_9, ev.eq_10, ev.eq_11, ev.eq_12, ev.eq_13, ev.eq_14, ev.eq_15, ev.eq_16, ev.eq_17, ev.eq_18, ev.eq_19, ev.eq_21, ev.eq_22, ev.eq_23, ev.eq_24, ev.eq_25, ev.eq_26, ev.eq_27, ev.eq_28, ev.eq_29, evs, evO, evB, evC, evi, obO, obL, obI, obP, obS, obLS, obIS, Wl.ret, retB, dat, dats, views, view, startW, fin, put, putAll, setAll, wipeW, List.map_cons, List.map_nil, List.length_cons, List.length_nil, List.cons_append, List.nil_append, Nat.reduceAdd, Nat.reduceSub, Nat.reduceEqDiff, List.replicate_succ, List.replicate_zero, List.getElem?_cons_zero, List.getElem?_cons_succ, List.set_cons_zero, List.set_cons_succ, Option.map_some, len_LI, len_list, add_int, sub_int, mod_int, fdv_int, mul_int, pow_int, lt_int, le_int, gt_int, ge_int, eq_int, ne_int, eq_LI, ne_LI, inn_LI, nin_LI, sli_LI, sub_LI, seq_LI, cmpW_d, is_bool, isn_bool, Bool.not_true, Bool.not_false, beq_self_eq_true, ite_true, if_true, Bool.false_eq_true, if_false, reduceIte, Dw_frz, frz_0, frz_VL, ne_bool, eq_bool, sorted_LI, seq_VL, eq_VL, ne_VL, pair_0, pair_1, len_VL, newL_f, onlyL_LI, mthO_index, max2_int, min2_int, Dw_get, Dw_set, Dw_app, Dw_len, isiW_d, isi_int_int, isi_int_bool, isi_int_list, isi_int_tuple, isi_int_str, isi_int_none, isi_int_LI, isi_int_VL, isi_bool_int, isi_bool_bool, isi_bool_list, isi_bool_tuple, isi_bool_str, isi_bool_none, isi_bool_LI, isi_bool_VL, isi_list_int, isi_list_bool, isi_list_list, isi_list_tuple, isi_list_str, isi_list_none, isi_list_LI, isi_list_VL, isi_tuple_int, isi_tuple_bool, isi_tuple_list, isi_tuple_tuple, isi_tuple_str, isi_tuple_none, isi_tuple_LI, isi_tuple_VL, isi_str_int, isi_str_bool, isi_str_list, isi_str_tuple, isi_str_str, isi_str_none, isi_str_LI, isi_str_VL, decide_true, decide_false, Bool.and_true, Bool.and_false, Bool.true_and, Bool.false_and, Bool.or_true, Bool.or_false, reduceCtorEq]
    · simp only [exSs, exS, ev.eq_1, ev.eq_2, ev.eq_3, ev.eq_4, ev.eq_5, ev.eq_6, ev.eq_7, ev.eq_8, ev.eq_9, ev.eq_10, ev.eq_11, ev.eq_12, ev.eq_13, ev.eq_14, ev.eq_15, ev.eq_16, ev.eq_17, ev.eq_18, ev.eq_19, ev.eq_21, ev.eq_22, ev.eq_23, ev.eq_24, ev.eq_25, ev.eq_26, ev.eq_27, ev.eq_28, ev.eq_29, evs, evO, evB, evC, evi, obO, obL, obI, obP, obS, obLS, obIS, Wl.ret, retB, dat, dats, views, view, startW, fin, put, putAll, setAll, wipeW, List.map_cons, List.map_nil, List.length_cons, List.length_nil, List.cons_append, List.nil_append, Nat.reduceAdd, Nat.reduceSub, Nat.reduceEqDiff, List.replicate_succ, List.replicate_zero, List.getElem?_cons_zero, List.getElem?_cons_succ, List.set_cons_zero, List.set_cons_succ, Option.map_some, len_LI, len_list, add_int, sub_int, mod_int, fdv_int, mul_int, pow_int, lt_int, le_int, gt_int, ge_int, eq_int, ne_int, eq_LI, ne_LI, inn_LI, nin_LI, sli_LI, sub_LI, seq_LI, cmpW_d, is_bool, isn_bool, Bool.not_true, Bool.not_false, beq_self_eq_true, ite_true, if_true, Bool.false_eq_true, if_false, reduceIte, Dw_frz, frz_0, frz_VL, ne_bool, eq_bool, sorted_LI, seq_VL, eq_VL, ne_VL, pair_0, pair_1, len_VL, newL_f, onlyL_LI, mthO_index, max2_int, min2_int, Dw_get, Dw_set, Dw_app, Dw_len, isiW_d, isi_int_int, isi_int_bool, isi_int_list, isi_int_tuple, isi_int_str, isi_int_none, isi_int_LI, isi_int_VL, isi_bool_int, isi_bool_bool, isi_bool_list, isi_bool_tuple, isi_bool_str, isi_bool_none, isi_bool_LI, isi_bool_VL, isi_list_int, isi_list_bool, isi_list_list, isi_list_tuple, isi_list_str, isi_list_none, isi_list_LI, isi_list_VL, isi_tuple_int, isi_tuple_bool, isi_tuple_list, isi_tuple_tuple, isi_tuple_str, isi_tuple_none, isi_tuple_LI, isi_tuple_VL, isi_str_int, isi_str_bool, isi_str_list, isi_str_tuple, isi_str_str, isi_str_none, isi_str_LI, isi_str_VL, decide_true, decide_false, Bool.and_true, Bool.and_false, Bool.true_and, Bool.false_and, Bool.or_true, Bool.or_false, reduceCtorEq, g]
  obtain ⟨f1, f2⟩ := forF_chk (step := fun x σ1 N => match put [5] x σ1 with
      | some σ2 => exSs (run T (k + 5)) b19_0 σ2 N
      | none => none) (P := fun x => match x with | .int i => hasF (fitL r (upL r w) w i) ps | _ => false) (I := fun σ => ∃ v5, σ = [some (.d (LI r)), some (.d (.int w)), some (.d (LI ps)), some (.d (.int ((r.length : Int) + w - 1))), some (.d (LI (upL r w))), v5, none]) (M := []) (w := .d (.bool false)) (xs := (upto r.length).map .int) (σ := [some (.d (LI r)), some (.d (.int w)), some (.d (LI ps)), some (.d (.int ((r.length : Int) + w - 1))), some (.d (LI (upL r w))), none, none]) (fun x hx σ ⟨v5, e1⟩ c => by
    obtain ⟨i, hi, rfl⟩ := List.mem_map.mp hx
    rw [upto_mem] at hi
    subst e1
    have ha := ha none i hi.1 hi.2
    simp only at c
    rw [c] at ha
    refine ⟨[some (.d (LI r)), some (.d (.int w)), some (.d (LI ps)), some (.d (.int ((r.length : Int) + w - 1))), some (.d (LI (upL r w))), some (.d (.int i)), none], ?_, _, rfl⟩
    simp only [b19_0, exSs, exS, ev.eq_1, ev.eq_2, ev.eq_3, ev.eq_4, ev.eq_5, ev.eq_6, ev.eq_7, ev.eq_8, ev.eq_9, ev.eq_10, ev.eq_11, ev.eq_12, ev.eq_13, ev.eq_14, ev.eq_15, ev.eq_16, ev.eq_17, ev.eq_18, ev.eq_19, ev.eq_21, ev.eq_22, ev.eq_23, ev.eq_24, ev.eq_25, ev.eq_26, ev.eq_27, ev.eq_28, ev.eq_29, evs, evO, evB, evC, evi, obO, obL, obI, obP, obS, obLS, obIS, Wl.ret, retB, dat, dats, views, view, startW, fin, put, putAll, setAll, wipeW, List.map_cons, List.map_nil, List.length_cons, List.length_nil, List.cons_append, List.nil_append, Nat.reduceAdd, Nat.reduceSub, Nat.reduceEqDiff, List.replicate_succ, List.replicate_zero, List.getElem?_cons_zero, List.getElem?_cons_succ, List.set_cons_zero, List.set_cons_succ, Option.map_some, len_LI, len_list, add_int, sub_int, mod_int, fdv_int, mul_int, pow_int, lt_int, le_int, gt_int, ge_int, eq_int, ne_int, eq_LI, ne_LI, inn_LI, nin_LI, sli_LI, sub_LI, seq_LI, cmpW_d, is_bool, isn_bool, Bool.not_true, Bool.not_false, beq_self_eq_true, ite_true, if_true, Bool.false_eq_true, if_false, reduceIte, Dw_frz, frz_0, frz_VL, ne_bool, eq_bool, sorted_LI, seq_VL, eq_VL, ne_VL, pair_0, pair_1, len_VL, newL_f, onlyL_LI, mthO_index, max2_int, min2_int, Dw_get, Dw_set, Dw_app, Dw_len, isiW_d, isi_int_int, isi_int_bool, isi_int_list, isi_int_tuple, isi_int_str, isi_int_none, isi_int_LI, isi_int_VL, isi_bool_int, isi_bool_bool, isi_bool_list, isi_bool_tuple, isi_bool_str, isi_bool_none, isi_bool_LI, isi_bool_VL, isi_list_int, isi_list_bool, isi_list_list, isi_list_tuple, isi_list_str, isi_list_none, isi_list_LI, isi_list_VL, isi_tuple_int, isi_tuple_bool, isi_tuple_list, isi_tuple_tuple, isi_tuple_str, isi_tuple_none, isi_tuple_LI, isi_tuple_VL, isi_str_int, isi_str_bool, isi_str_list, isi_str_tuple, isi_str_str, isi_str_none, isi_str_LI, isi_str_VL, decide_true, decide_false, Bool.and_true, Bool.and_false, Bool.true_and, Bool.false_and, Bool.or_true, Bool.or_false, reduceCtorEq, ↓ha]) (fun x hx σ ⟨v5, e1⟩ c => by
    obtain ⟨i, hi, rfl⟩ := List.mem_map.mp hx
    rw [upto_mem] at hi
    subst e1
    have ha := ha none i hi.1 hi.2
    simp only at c
    rw [c] at ha
    simp only [b19_0, exSs, exS, ev.eq_1, ev.eq_2, ev.eq_3, ev.eq_4, ev.eq_5, ev.eq_6, ev.eq_7, ev.eq_8, ev.eq_9, ev.eq_10, ev.eq_11, ev.eq_12, ev.eq_13, ev.eq_14, ev.eq_15, ev.eq_16, ev.eq_17, ev.eq_18, ev.eq_19, ev.eq_21, ev.eq_22, ev.eq_23, ev.eq_24, ev.eq_25, ev.eq_26, ev.eq_27, ev.eq_28, ev.eq_29, evs, evO, evB, evC, evi, obO, obL, obI, obP, obS, obLS, obIS, Wl.ret, retB, dat, dats, views, view, startW, fin, put, putAll, setAll, wipeW, List.map_cons, List.map_nil, List.length_cons, List.length_nil, List.cons_append, List.nil_append, Nat.reduceAdd, Nat.reduceSub, Nat.reduceEqDiff, List.replicate_succ, List.replicate_zero, List.getElem?_cons_zero, List.getElem?_cons_succ, List.set_cons_zero, List.set_cons_succ, Option.map_some, len_LI, len_list, add_int, sub_int, mod_int, fdv_int, mul_int, pow_int, lt_int, le_int, gt_int, ge_int, eq_int, ne_int, eq_LI, ne_LI, inn_LI, nin_LI, sli_LI, sub_LI, seq_LI, cmpW_d, is_bool, isn_bool, Bool.not_true, Bool.not_false, beq_self_eq_true, ite_true, if_true, Bool.false_eq_true, if_false, reduceIte, Dw_frz, frz_0, frz_VL, ne_bool, eq_bool, sorted_LI, seq_VL, eq_VL, ne_VL, pair_0, pair_1, len_VL, newL_f, onlyL_LI, mthO_index, max2_int, min2_int, Dw_get, Dw_set, Dw_app, Dw_len, isiW_d, isi_int_int, isi_int_bool, isi_int_list, isi_int_tuple, isi_int_str, isi_int_none, isi_int_LI, isi_int_VL, isi_bool_int, isi_bool_bool, isi_bool_list, isi_bool_tuple, isi_bool_str, isi_bool_none, isi_bool_LI, isi_bool_VL, isi_list_int, isi_list_bool, isi_list_list, isi_list_tuple, isi_list_str, isi_list_none, isi_list_LI, isi_list_VL, isi_tuple_int, isi_tuple_bool, isi_tuple_list, isi_tuple_tuple, isi_tuple_str, isi_tuple_none, isi_tuple_LI, isi_tuple_VL, isi_str_int, isi_str_bool, isi_str_list, isi_str_tuple, isi_str_str, isi_str_none, isi_str_LI, isi_str_VL, decide_true, decide_false, Bool.and_true, Bool.and_false, Bool.true_and, Bool.false_and, Bool.or_true, Bool.or_false, reduceCtorEq, ↓ha]) ⟨none, rfl⟩
  have ee : ((upto r.length).map PyData.int).all (fun x => match x with | .int i => hasF (fitL r (upL r w) w i) ps | _ => false) = enough r (upL r w) w ps := by
    rw [List.all_map]
    rfl
  rw [ee] at f1 f2
  refine call0 (M' := []) ?_ rfl
  refine run_ret (fi := i19) (M' := []) rfl rfl ?_
  simp only [i19, startW, List.map_cons, List.map_nil, List.length_cons, List.length_nil, Nat.reduceAdd, Nat.reduceSub, List.replicate_succ, List.replicate_zero, List.cons_append, List.nil_append]
  apply Eq.trans
  · apply exSs_cons
    (simp only [exSs, exS, ev.eq_1, ev.eq_2, ev.eq_3, ev.eq_4, ev.eq_5, ev.eq_6, ev.eq_7, ev.eq_8, ev.eq_9, ev.eq_10, ev.eq_11, ev.eq_12, ev.eq_13, ev.eq_14, ev.eq_15, ev.eq_16, ev.eq_17, ev.eq_18, ev.eq_19, ev.eq_21, ev.eq_22, ev.eq_23, ev.eq_24, ev.eq_25, ev.eq_26, ev.eq_27, ev.eq_28, ev.eq_29, evs, evO, evB, evC, evi, obO, obL, obI, obP, obS, obLS, obIS, Wl.ret, retB, dat, dats, views, view, startW, fin, put, putAll, setAll, wipeW, List.map_cons, List.map_nil, List.length_cons, List.length_nil, List.cons_append, List.nil_append, Nat.reduceAdd, Nat.reduceSub, Nat.reduceEqDiff, List.replicate_succ, List.replicate_zero, List.getElem?_cons_zero, List.getElem?_cons_succ, List.set_cons_zero, List.set_cons_succ, Option.map_some, len_LI, len_list, add_int, sub_int, mod_int, fdv_int, mul_int, pow_int, lt_int, le_int, gt_int, ge_int, eq_int, ne_int, eq_LI, ne_LI, inn_LI, nin_LI, sli_LI, sub_LI, seq_LI, cmpW_d, is_bool, isn_bool, Bool.not_true, Bool.not_false, beq_self_eq_true, ite_true, if_true, Bool.false_eq_true, if_false, reduceIte, Dw_frz, frz_0, frz_VL, ne_bool, eq_bool, sorted_LI, seq_VL, eq_VL, ne_VL, pair_0, pair_1, len_VL, newL_f, onlyL_LI, mthO_index, max2_int, min2_int, Dw_get, Dw_set, Dw_app, Dw_len, isiW_d, isi_int_int, isi_int_bool, isi_int_list, isi_int_tuple, isi_int_str, isi_int_none, isi_int_LI, isi_int_VL, isi_bool_int, isi_bool_bool, isi_bool_list, isi_bool_tuple, isi_bool_str, isi_bool_none, isi_bool_LI, isi_bool_VL, isi_list_int, isi_list_bool, isi_list_list, isi_list_tuple, isi_list_str, isi_list_none, isi_list_LI, isi_list_VL, isi_tuple_int, isi_tuple_bool, isi_tuple_list, isi_tuple_tuple, isi_tuple_str, isi_tuple_none, isi_tuple_LI, isi_tuple_VL, isi_str_int, isi_str_bool, isi_str_list, isi_str_tuple, isi_str_str, isi_str_none, isi_str_LI, isi_str_VL, decide_true, decide_false, Bool.and_true, Bool.and_false, Bool.true_and, Bool.false_and, Bool.or_true, Bool.or_false, reduceCtorEq, check_origin_call h h1 h2 e]) <;> rfl
  apply Eq.trans
  · apply exSs_cons
    (simp only [exSs, exS, ev.eq_1, ev.eq_2, ev.eq_3, ev.eq_4, ev.eq_5, ev.eq_6, ev.eq_7, ev.eq_8, ev.eq_9, ev.eq_10, ev.eq_11, ev.eq_12, ev.eq_13, ev.eq_14, ev.eq_15, ev.eq_16, ev.eq_17, ev.eq_18, ev.eq_19, ev.eq_21, ev.eq_22, ev.eq_23, ev.eq_24, ev.eq_25, ev.eq_26, ev.eq_27, ev.eq_28, ev.eq_29, evs, evO, evB, evC, evi, obO, obL, obI, obP, obS, obLS, obIS, Wl.ret, retB, dat, dats, views, view, startW, fin, put, putAll, setAll, wipeW, List.map_cons, List.map_nil, List.length_cons, List.length_nil, List.cons_append, List.nil_append, Nat.reduceAdd, Nat.reduceSub, Nat.reduceEqDiff, List.replicate_succ, List.replicate_zero, List.getElem?_cons_zero, List.getElem?_cons_succ, List.set_cons_zero, List.set_cons_succ, Option.map_some, len_LI, len_list, add_int, sub_int, mod_int, fdv_int, mul_int, pow_int, lt_int, le_int, gt_int, ge_int, eq_int, ne_int, eq_LI, ne_LI, inn_LI, nin_LI, sli_LI, sub_LI, seq_LI, cmpW_d, is_bool, isn_bool, Bool.not_true, Bool.not_false, beq_self_eq_true, ite_true, if_true, Bool.false_eq_true, if_false, reduceIte, Dw_frz, frz_0, frz_VL, ne_bool, eq_bool, sorted_LI, seq_VL, eq_VL, ne_VL, pair_0, pair_1, len_VL, newL_f, onlyL_LI, mthO_index, max2_int, min2_int, Dw_get, Dw_set, Dw_app, Dw_len, isiW_d, isi_int_int, isi_int_bool, isi_int_list, isi_int_tuple, isi_int_str, isi_int_none, isi_int_LI, isi_int_VL, isi_bool_int, isi_bool_bool, isi_bool_list, isi_bool_tuple, isi_bool_str, isi_bool_none, isi_bool_LI, isi_bool_VL, isi_list_int, isi_list_bool, isi_list_list, isi_list_tuple, isi_list_str, isi_list_none, isi_list_LI, isi_list_VL, isi_tuple_int, isi_tuple_bool, isi_tuple_list, isi_tuple_tuple, isi_tuple_str, isi_tuple_none, isi_tuple_LI, isi_tuple_VL, isi_str_int, isi_str_bool, isi_str_list, isi_str_tuple, isi_str_str, isi_str_none, isi_str_LI, isi_str_VL, decide_true, decide_false, Bool.and_true, Bool.and_false, Bool.true_and, Bool.false_and, Bool.or_true, Bool.or_false, reduceCtorEq]) <;> rfl
  apply Eq.trans
  · apply exSs_cons
    (simp only [exSs, exS, ev.eq_1, ev.eq_2, ev.eq_3, ev.eq_4, ev.eq_5, ev.eq_6, ev.eq_7, ev.eq_8, ev.eq_9, ev.eq_10, ev.eq_11, ev.eq_12, ev.eq_13, ev.eq_14, ev.eq_15, ev.eq_16, ev.eq_17, ev.eq_18, ev.eq_19, ev.eq_21, ev.eq_22, ev.eq_23, ev.eq_24, ev.eq_25, ev.eq_26, ev.eq_27, ev.eq_28, ev.eq_29, evs, evO, evB, evC, evi, obO, obL, obI, obP, obS, obLS, obIS, Wl.ret, retB, dat, dats, views, view, startW, fin, put, putAll, setAll, wipeW, List.map_cons, List.map_nil, List.length_cons, List.length_nil, List.cons_append, List.nil_append, Nat.reduceAdd, Nat.reduceSub, Nat.reduceEqDiff, List.replicate_succ, List.replicate_zero, List.getElem?_cons_zero, List.getElem?_cons_succ, List.set_cons_zero, List.set_cons_succ, Option.map_some, len_LI, len_list, add_int, sub_int, mod_int, fdv_int, mul_int, pow_int, lt_int, le_int, gt_int, ge_int, eq_int, ne_int, eq_LI, ne_LI, inn_LI, nin_LI, sli_LI, sub_LI, seq_LI, cmpW_d, is_bool, isn_bool, Bool.not_true, Bool.not_false, beq_self_eq_true, ite_true, if_true, Bool.false_eq_true, if_false, reduceIte, Dw_frz, frz_0, frz_VL, ne_bool, eq_bool, sorted_LI, seq_VL, eq_VL, ne_VL, pair_0, pair_1, len_VL, newL_f, onlyL_LI, mthO_index, max2_int, min2_int, Dw_get, Dw_set, Dw_app, Dw_len, isiW_d, isi_int_int, isi_int_bool, isi_int_list, isi_int_tuple, isi_int_str, isi_int_none, isi_int_LI, isi_int_VL, isi_bool_int, isi_bool_bool, isi_bool_list, isi_bool_tuple, isi_bool_str, isi_bool_none, isi_bool_LI, isi_bool_VL, isi_list_int, isi_list_bool, isi_list_list, isi_list_tuple, isi_list_str, isi_list_none, isi_list_LI, isi_list_VL, isi_tuple_int, isi_tuple_bool, isi_tuple_list, isi_tuple_tuple, isi_tuple_str, isi_tuple_none, isi_tuple_LI, isi_tuple_VL, isi_str_int, isi_str_bool, isi_str_list, isi_str_tuple, isi_str_str, isi_str_none, isi_str_LI, isi_str_VL, decide_true, decide_false, Bool.and_true, Bool.and_false, Bool.true_and, Bool.false_and, Bool.or_true, Bool.or_false, reduceCtorEq, a1, all_LB, all1]) <;> rfl
  apply Eq.trans
  · apply exSs_cons
    (simp only [exSs, exS, ev.eq_1, ev.eq_2, ev.eq_3, ev.eq_4, ev.eq_5, ev.eq_6, ev.eq_7, ev.eq_8, ev.eq_9, ev.eq_10, ev.eq_11, ev.eq_12, ev.eq_13, ev.eq_14, ev.eq_15, ev.eq_16, ev.eq_17, ev.eq_18, ev.eq_19, ev.eq_21, ev.eq_22, ev.eq_23, ev.eq_24, ev.eq_25, ev.eq_26, ev.eq_27, ev.eq_28, ev.eq_29, evs, evO, evB, evC, evi, obO, obL, obI, obP, obS, obLS, obIS, Wl.ret, retB, dat, dats, views, view, startW, fin, put, putAll, setAll, wipeW, List.map_cons, List.map_nil, List.length_cons, List.length_nil, List.cons_append, List.nil_append, Nat.reduceAdd, Nat.reduceSub, Nat.reduceEqDiff, List.replicate_succ, List.replicate_zero, List.getElem?_cons_zero, List.getElem?_cons_succ, List.set_cons_zero, List.set_cons_succ, Option.map_some, len_LI, len_list, add_int, sub_int, mod_int, fdv_int, mul_int, pow_int, lt_int, le_int, gt_int, ge_int, eq_int, ne_int, eq_LI, ne_LI, inn_LI, nin_LI, sli_LI, sub_LI, seq_LI, cmpW_d, is_bool, isn_bool, Bool.not_true, Bool.not_false, beq_self_eq_true, ite_true, if_true, Bool.false_eq_true, if_false, reduceIte, Dw_frz, frz_0, frz_VL, ne_bool, eq_bool, sorted_LI, seq_VL, eq_VL, ne_VL, pair_0, pair_1, len_VL, newL_f, onlyL_LI, mthO_index, max2_int, min2_int, Dw_get, Dw_set, Dw_app, Dw_len, isiW_d, isi_int_int, isi_int_bool, isi_int_list, isi_int_tuple, isi_int_str, isi_int_none, isi_int_LI, isi_int_VL, isi_bool_int, isi_bool_bool, isi_bool_list, isi_bool_tuple, isi_bool_str, isi_bool_none, isi_bool_LI, isi_bool_VL, isi_list_int, isi_list_bool, isi_list_list, isi_list_tuple, isi_list_str, isi_list_none, isi_list_LI, isi_list_VL, isi_tuple_int, isi_tuple_bool, isi_tuple_list, isi_tuple_tuple, isi_tuple_str, isi_tuple_none, isi_tuple_LI, isi_tuple_VL, isi_str_int, isi_str_bool, isi_str_list, isi_str_tuple, isi_str_str, isi_str_none, isi_str_LI, isi_str_VL, decide_true, decide_false, Bool.and_true, Bool.and_false, Bool.true_and, Bool.false_and, Bool.or_true, Bool.or_false, reduceCtorEq, lowest_origin_call h h1 h2]) <;> rfl
  cases c : enough r (upL r w) w ps with
  | true =>
    obtain ⟨σ5, f1, v5, rfl⟩ := f1 c
    apply Eq.trans
    · apply exSs_cons
      apply exS_for
      · (simp only [exSs, exS, ev.eq_1, ev.eq_2, ev.eq_3, ev.eq_4, ev.eq_5, ev.eq_6, ev.eq_7, ev.eq_8, ev.eq_9, ev.eq_10, ev.eq_11, ev.eq_12, ev.eq_13, ev.eq_14, ev.eq_15, ev.eq_16, ev.eq_17, ev.eq_18, ev.eq_19, ev.eq_21, ev.eq_22, ev.eq_23, ev.eq_24, ev.eq_25, ev.eq_26, ev.eq_27, ev.eq_28, ev.eq_29, evs, evO, evB, evC, evi, obO, obL, obI, obP, obS, obLS, obIS, Wl.ret, retB, dat, dats, views, view, startW, fin, put, putAll, setAll, wipeW, List.map_cons, List.map_nil, List.length_cons, List.length_nil, List.cons_append, List.nil_append, Nat.reduceAdd, Nat.reduceSub, Nat.reduceEqDiff, List.replicate_succ, List.replicate_zero, List.getElem?_cons_zero, List.getElem?_cons_succ, List.set_cons_zero, List.set_cons_succ, Option.map_some, len_LI, len_list, add_int, sub_int, mod_int, fdv_int, mul_int, pow_int, lt_int, le_int, gt_int, ge_int, eq_int, ne_int, eq_LI, ne_LI, inn_LI, nin_LI, sli_LI, sub_LI, seq_LI, cmpW_d, is_bool, isn_bool, Bool.not_true, Bool.not_false, beq_self_eq_true, ite_true, if_true, Bool.false_eq_true, if_false, reduceIte, Dw_frz, frz_0, frz_VL, ne_bool, eq_bool, sorted_LI, seq_VL, eq_VL, ne_VL, pair_0, pair_1, len_VL, newL_f, onlyL_LI, mthO_index, max2_int, min2_int, Dw_get, Dw_set, Dw_app, Dw_len, isiW_d, isi_int_int, isi_int_bool, isi_int_list, isi_int_tuple, isi_int_str, isi_int_none, isi_int_LI, isi_int_VL, isi_bool_int, isi_bool_bool, isi_bool_list, isi_bool_tuple, isi_bool_str, isi_bool_none, isi_bool_LI, isi_bool_VL, isi_list_int, isi_list_bool, isi_list_list, isi_list_tuple, isi_list_str, isi_list_none, isi_list_LI, isi_list_VL, isi_tuple_int, isi_tuple_bool, isi_tuple_list, isi_tuple_tuple, isi_tuple_str, isi_tuple_none, isi_tuple_LI, isi_tuple_VL, isi_str_int, isi_str_bool, isi_str_list, isi_str_tuple, isi_str_str, isi_str_none, isi_str_LI, isi_str_VL, decide_true, decide_false, Bool.and_true, Bool.and_false, Bool.true_and, Bool.false_and, Bool.or_true, Bool.or_false, reduceCtorEq, rng1 (j := (r.length : Int)) (by omega), Int.toNat_natCast]) <;> rfl
      · exact f1
    simp only [exSs, exS, ev.eq_1, ev.eq_2, ev.eq_3, ev.eq_4, ev.eq_5, ev.eq_6, ev.eq_7, ev.eq_8, ev.eq_9, ev.eq_10, ev.eq_11, ev.eq_12, ev.eq_13, ev.eq_14, ev.eq_15, ev.eq_16, ev.eq_17, ev.eq_18, ev.eq_19, ev.eq_21, ev.eq_22, ev.eq_23, ev.eq_24, ev.eq_25, ev.eq_26, ev.eq_27, ev.eq_28, ev.eq_29, evs, evO, evB, evC, evi, obO, obL, obI, obP, obS, obLS, obIS, Wl.ret, retB, dat, dats, views, view, startW, fin, put, putAll, setAll, wipeW, List.map_cons, List.map_nil, List.length_cons, List.length_nil, List.cons_append, List.nil_append, Nat.reduceAdd, Nat.reduceSub, Nat.reduceEqDiff, List.replicate_succ, List.replicate_zero, List.getElem?_cons_zero, List.getElem?_cons_succ, List.set_cons_zero, List.set_cons_succ, Option.map_some, len_LI, len_list, add_int, sub_int, mod_int, fdv_int, mul_int, pow_int, lt_int, le_int, gt_int, ge_int, eq_int, ne_int, eq_LI, ne_LI, inn_LI, nin_LI, sli_LI, sub_LI, seq_LI, cmpW_d, is_bool, isn_bool, Bool.not_true, Bool.not_false, beq_self_eq_true, ite_true, if_true, Bool.false_eq_true, if_false, reduceIte, Dw_frz, frz_0, frz_VL, ne_bool, eq_bool, sorted_LI, seq_VL, eq_VL, ne_VL, pair_0, pair_1, len_VL, newL_f, onlyL_LI, mthO_index, max2_int, min2_int, Dw_get, Dw_set, Dw_app, Dw_len, isiW_d, isi_int_int, isi_int_bool, isi_int_list, isi_int_tuple, isi_int_str, isi_int_none, isi_int_LI, isi_int_VL, isi_bool_int, isi_bool_bool, isi_bool_list, isi_bool_tuple, isi_bool_str, isi_bool_none, isi_bool_LI, isi_bool_VL, isi_list_int, isi_list_bool, isi_list_list, isi_list_tuple, isi_list_str, isi_list_none, isi_list_LI, isi_list_VL, isi_tuple_int, isi_tuple_bool, isi_tuple_list, isi_tuple_tuple, isi_tuple_str, isi_tuple_none, isi_tuple_LI, isi_tuple_VL, isi_str_int, isi_str_bool, isi_str_list, isi_str_tuple, isi_str_str, isi_str_none, isi_str_LI, isi_str_VL, decide_true, decide_false, Bool.and_true, Bool.and_false, Bool.true_and, Bool.false_and, Bool.or_true, Bool.or_false, reduceCtorEq]
  | false =>
    refine exSs_rt ?_
    apply exS_for
    · (simp only [exSs, exS, ev.eq_1, ev.eq_2, ev.eq_3, ev.eq_4, ev.eq_5, ev.eq_6, ev.eq_7, ev.eq_8, ev.eq_9, ev.eq_10, ev.eq_11, ev.eq_12, ev.eq_13, ev.eq_14, ev.eq_15, ev.eq_16, ev.eq_17, ev.eq_18, ev.eq_19, ev.eq_21, ev.eq_22, ev.eq_23, ev.eq_24, ev.eq_25, ev.eq_26, ev.eq_27, ev.eq_28, ev.eq_29, evs, evO, evB, evC, evi, obO, obL, obI, obP, obS, obLS, obIS, Wl.ret, retB, dat, dats, views, view, startW, fin, put, putAll, setAll, wipeW, List.map_cons, List.map_nil, List.length_cons, List.length_nil, List.cons_append, List.nil_append, Nat.reduceAdd, Nat.reduceSub, Nat.reduceEqDiff, List.replicate_succ, List.replicate_zero, List.getElem?_cons_zero, List.getElem?_cons_succ, List.set_cons_zero, List.set_cons_succ, Option.map_some, len_LI, len_list, add_int, sub_int, mod_int, fdv_int, mul_int, pow_int, lt_int, le_int, gt_int, ge_int, eq_int, ne_int, eq_LI, ne_LI, inn_LI, nin_LI, sli_LI, sub_LI, seq_LI, cmpW_d, is_bool, isn_bool, Bool.not_true, Bool.not_false, beq_self_eq_true, ite_true, if_true, Bool.false_eq_true, if_false, reduceIte, Dw_frz, frz_0, frz_VL, ne_bool, eq_bool, sorted_LI, seq_VL, eq_VL, ne_VL, pair_0, pair_1, len_VL, newL_f, onlyL_LI, mthO_index, max2_int, min2_int, Dw_get, Dw_set, Dw_app, Dw_len, isiW_d, isi_int_int, isi_int_bool, isi_int_list, isi_int_tuple, isi_int_str, isi_int_none, isi_int_LI, isi_int_VL, isi_bool_int, isi_bool_bool, isi_bool_list, isi_bool_tuple, isi_bool_str, isi_bool_none, isi_bool_LI, isi_bool_VL, isi_list_int, isi_list_bool, isi_list_list, isi_list_tuple, isi_list_str, isi_list_none, isi_list_LI, isi_list_VL, isi_tuple_int, isi_tuple_bool, isi_tuple_list, isi_tuple_tuple, isi_tuple_str, isi_tuple_none, isi_tuple_LI, isi_tuple_VL, isi_str_int, isi_str_bool, isi_str_list, isi_str_tuple, isi_str_str, isi_str_none, isi_str_LI, isi_str_VL, decide_true, decide_false, Bool.and_true, Bool.and_false, Bool.true_and, Bool.false_and, Bool.or_true, Bool.or_false, reduceCtorEq, rng1 (j := (r.length : Int)) (by omega), Int.toNat_natCast]) <;> rfl
    · exact f2 c
theorem okRow_up {r : List Int} {w : Int} (h : okRow r) (h1 : 1 ≤ w) (h2 : w + r.length ≤ 13) {b : Int} (hb : ∀ v ∈ r, v ≤ b) : okRow (upL r w) ∧ ∀ p : Int, 0 ≤ p → p < (upL r w).length → 0 ≤ rowAt (upL r w) p ∧ rowAt (upL r w) p ≤ b := by
  have ul := upL_len r w
  have hl := List.length_pos_iff.mpr h.1
  have key : ∀ p : Int, 0 ≤ p → p < (upL r w).length → rowAt (upL r w) p ∈ r := fun p p0 p1 => by
    rw [rowAt_up p0 (by omega)]
    obtain ⟨k, k0, k1, _, _, k4⟩ := upAt_is (xs := r) (w := w) (p := p) h1 p0 (by omega) h.1
    rw [k4]
    have := rowAt_get (xs := r) (p := k) k0 k1
    rw [Wl.atI_nat k0] at this
    exact List.mem_of_getElem? this
  refine ⟨⟨fun e => by rw [e] at ul; simp at ul; omega, by omega, fun v hv => ?_⟩, fun p p0 p1 => ⟨(h.2.2 _ (key p p0 p1)).1, hb _ (key p p0 p1)⟩⟩
  obtain ⟨i, hi⟩ := List.getElem?_of_mem hv
  have hil := (List.getElem?_eq_some_iff.mp hi).1
  have e := rowAt_get (xs := upL r w) (p := i) (by omega) (by omega)
  rw [Wl.atI_nat (by omega), Int.toNat_natCast, hi] at e
  cases e
  exact h.2.2 _ (key i (by omega) (by omega))
/-! ### counting: windows, marks, ways -/
theorem span_cons {a b : Int} (h : a < b) : span a b = a :: span (a + 1) b := by
  unfold span
  obtain ⟨n, hn⟩ : ∃ n, (b - a).toNat = n + 1 := ⟨(b - a).toNat - 1, by omega⟩
  rw [hn, show (b - (a + 1)).toNat = n by omega, List.range_succ_eq_map, List.map_cons, List.map_map]
  congr 1
  · simp
  · refine List.map_congr_left fun k _ => ?_
    show a + ((k + 1 : Nat) : Int) = a + 1 + (k : Int)
    omega
theorem span_nil {a b : Int} (h : b ≤ a) : span a b = [] := by
  unfold span
  rw [show (b - a).toNat = 0 by omega]
  rfl
theorem span_split {a c : Int} : ∀ (n : Nat) {b : Int}, (b - a).toNat = n → a ≤ b → b ≤ c → span a c = span a b ++ span b c
  | 0, b, h, h1, h2 => by
    have e : b = a := by omega
    rw [e, span_nil (Int.le_refl a)]
    rfl
  | n + 1, b, h, h1, h2 => by
    have h3 : a < b := by omega
    rw [span_cons (a := a) (b := c) (by omega), span_cons h3, List.cons_append]
    congr 1
    have ih := fun a' => @span_split a' c n b
    exact ih (a + 1) (by omega) (by omega) h2
theorem span_cut {a b c : Int} (h1 : a ≤ b) (h2 : b ≤ c) : span a c = span a b ++ span b c := span_split _ rfl h1 h2
theorem upto_span (n : Nat) : upto n = span 0 n := by
  unfold upto span
  rw [show ((n : Int) - 0).toNat = n by omega]
  refine List.map_congr_left fun k _ => ?_
  omega
section
variable (r L : List Int) (w m : Int)
/-- does the window that ends at p have its value at a marked place -/
def hold (p : Int) (t : List Bool) : Bool := decide (p - w + 1 < 0) || (upto w.toNat).any fun k => (t.getD k.toNat false) && decide (rowAt L (p - w + 1 + k) = rowAt r (p - w + 1))
def aft (t : List Bool) (b : Bool) : List Bool := (t ++ [b]).drop ((t ++ [b]).length - (w.toNat - 1))
/-- the number of ways to go on -/
def Wy : Nat → Int → List Bool → Int
  | 0, _, _ => 1
  | d + 1, p, t => (if hold r L w p (t ++ [true]) = true then Wy d (p + 1) (aft w t true) else 0) + (if rowAt L p < m ∧ hold r L w p (t ++ [false]) = true then (m - rowAt L p) * Wy d (p + 1) (aft w t false) else 0)
/-- the ways to go on, in order -/
def Or : Nat → Int → List Bool → List (List Int)
  | 0, _, _ => [[]]
  | d + 1, p, t => (span (rowAt L p) (m + 1)).flatMap fun v => if hold r L w p (t ++ [decide (v = rowAt L p)]) = true then (Or d (p + 1) (aft w t (decide (v = rowAt L p)))).map (v :: ·) else []
def blk (d : Nat) (p : Int) (t : List Bool) (v : Int) : List (List Int) := if hold r L w p (t ++ [decide (v = rowAt L p)]) = true then (Or r L w m d (p + 1) (aft w t (decide (v = rowAt L p)))).map (v :: ·) else []
def okS : Int → List Bool → List Int → Bool
  | _, _, [] => true
  | p, t, v :: s => decide (rowAt L p ≤ v) && hold r L w p (t ++ [decide (v = rowAt L p)]) && okS (p + 1) (aft w t (decide (v = rowAt L p))) s
/-- how many go on behind a value -/
def Fq (d : Nat) (p : Int) (t : List Bool) (v : Int) : Int := if hold r L w p (t ++ [decide (v = rowAt L p)]) = true then Wy r L w m d (p + 1) (aft w t (decide (v = rowAt L p))) else 0
def rk : Nat → Int → List Bool → List Int → Int
  | d + 1, p, t, v :: s => ((span (rowAt L p) v).map (Fq r L w m d p t)).sum + rk d (p + 1) (aft w t (decide (v = rowAt L p))) s
  | _, _, _, _ => 0
end
section
variable {r L : List Int} {w m : Int}
theorem Or_succ (d : Nat) (p : Int) (t : List Bool) : Or r L w m (d + 1) p t = (span (rowAt L p) (m + 1)).flatMap (blk r L w m d p t) := rfl
theorem flat_const {α : Type} {g : Int → List α} {n : Nat} : ∀ {xs : List Int}, (∀ x ∈ xs, (g x).length = n) → (xs.flatMap g).length = xs.length * n
  | [], _ => by simp
  | x :: xs, h => by
    rw [List.flatMap_cons, List.length_append, h x (.head _), flat_const fun y hy => h y (.tail _ hy), List.length_cons, Nat.succ_mul]
    omega
theorem Or_len : ∀ (d : Nat) (p : Int) (t : List Bool), (∀ q : Int, p ≤ q → q < p + d → rowAt L q ≤ m) → ((Or r L w m d p t).length : Int) = Wy r L w m d p t
  | 0, _, _, _ => rfl
  | d + 1, p, t, h => by
    have hp := h p (Int.le_refl p) (by omega)
    have ih := fun b => Or_len d (p + 1) (aft w t b) fun q h1 h2 => h q (by omega) (by omega)
    rw [Or_succ, span_cons (by omega), List.flatMap_cons, List.length_append]
    have e1 : ((blk r L w m d p t (rowAt L p)).length : Int) = if hold r L w p (t ++ [true]) = true then Wy r L w m d (p + 1) (aft w t true) else 0 := by
      unfold blk
      rw [decide_eq_true rfl]
      split
      · rw [List.length_map]
        exact ih true
      · rfl
    have e2 : ((span (rowAt L p + 1) (m + 1)).flatMap (blk r L w m d p t)).length = (m - rowAt L p).toNat * (if hold r L w p (t ++ [false]) = true then (Or r L w m d (p + 1) (aft w t false)).length else 0) := by
      rw [flat_const (n := if hold r L w p (t ++ [false]) = true then (Or r L w m d (p + 1) (aft w t false)).length else 0), span_len]
      · congr 1
        omega
      · intro v hv
        rw [span_mem] at hv
        unfold blk
        rw [decide_eq_false (show ¬ v = rowAt L p by omega)]
        split
        · rw [List.length_map]
        · rfl
    rw [Wy, Int.natCast_add, e1, e2]
    congr 1
    by_cases c : rowAt L p < m
    · by_cases c2 : hold r L w p (t ++ [false]) = true
      · rw [if_pos c2, if_pos ⟨c, c2⟩, Int.natCast_mul, ih false, show (((m - rowAt L p).toNat : Nat) : Int) = m - rowAt L p by omega]
      · rw [if_neg c2, if_neg (show ¬ (rowAt L p < m ∧ hold r L w p (t ++ [false]) = true) from fun z => c2 z.2)]
        simp
    · rw [if_neg (show ¬ (rowAt L p < m ∧ hold r L w p (t ++ [false]) = true) from fun z => c z.1), show (m - rowAt L p).toNat = 0 by omega]
      simp
theorem blk_len {d : Nat} {p : Int} {t : List Bool} {v : Int} (h : ∀ q : Int, p + 1 ≤ q → q < p + 1 + d → rowAt L q ≤ m) : ((blk r L w m d p t v).length : Int) = Fq r L w m d p t v := by
  unfold blk Fq
  split
  · rw [List.length_map]
    exact Or_len d (p + 1) _ h
  · rfl
/-- all ways are the rows that go on -/
theorem Or_eq : ∀ (d : Nat) (p : Int) (t : List Bool), (∀ q : Int, p ≤ q → q < p + d → 0 ≤ rowAt L q ∧ rowAt L q ≤ m) → Or r L w m d p t = (allR m d).filter (okS r L w p t)
  | 0, _, _, _ => rfl
  | d + 1, p, t, h => by
    have hp := h p (Int.le_refl p) (by omega)
    have ih := fun b => Or_eq d (p + 1) (aft w t b) fun q h1 h2 => h q (by omega) (by omega)
    show _ = ((upto (m + 1).toNat).flatMap fun v => (allR m d).map (v :: ·)).filter _
    rw [List.filter_flatMap, upto_span, show (((m + 1).toNat : Nat) : Int) = m + 1 by omega, span_cut (b := rowAt L p) hp.1 (by omega), List.flatMap_append, Or_succ]
    have e0 : (span 0 (rowAt L p)).flatMap (fun v => ((allR m d).map (v :: ·)).filter (okS r L w p t)) = [] := List.flatMap_eq_nil_iff.mpr fun v hv => by
      rw [span_mem] at hv
      rw [List.filter_eq_nil_iff]
      intro s hs
      obtain ⟨s', _, rfl⟩ := List.mem_map.mp hs
      rw [okS, decide_eq_false (by omega)]
      simp
    rw [e0, List.nil_append]
    have e1 : ∀ xs : List Int, (∀ v ∈ xs, rowAt L p ≤ v) → xs.flatMap (blk r L w m d p t) = xs.flatMap fun v => ((allR m d).map (v :: ·)).filter (okS r L w p t) := fun xs => by
      induction xs with
      | nil => intro _; rfl
      | cons v xs ih2 =>
        intro hx
        rw [List.flatMap_cons, List.flatMap_cons, ih2 fun y hy => hx y (.tail _ hy)]
        congr 1
        unfold blk
        rw [List.filter_map]
        by_cases c : hold r L w p (t ++ [decide (v = rowAt L p)]) = true
        · rw [if_pos c, ih]
          congr 1
          refine List.filter_congr fun s _ => ?_
          show _ = okS r L w p t (v :: s)
          rw [okS, c, decide_eq_true (hx v (.head _))]
          rfl
        · rw [if_neg c]
          symm
          rw [List.map_eq_nil_iff, List.filter_eq_nil_iff]
          intro s _
          show ¬ okS r L w p t (v :: s) = true
          rw [okS]
          simp [c]
    exact e1 _ fun v hv => (span_mem.mp hv).1
theorem sum_len {g : Int → List (List Int)} {f : Int → Int} : ∀ {xs : List Int}, (∀ x ∈ xs, ((g x).length : Int) = f x) → ((xs.flatMap g).length : Int) = (xs.map f).sum
  | [], _ => rfl
  | x :: xs, h => by
    rw [List.flatMap_cons, List.length_append, Int.natCast_add, h x (.head _), sum_len fun y hy => h y (.tail _ hy), List.map_cons, List.sum_cons]
/-- the rank is the place -/
theorem rk_at : ∀ (d : Nat) (p : Int) (t : List Bool) (s : List Int), (∀ q : Int, p ≤ q → q < p + d → rowAt L q ≤ m) → s.length = d → (∀ v ∈ s, v ≤ m) → okS r L w p t s = true → 0 ≤ rk r L w m d p t s ∧ (Or r L w m d p t)[(rk r L w m d p t s).toNat]? = some s
  | 0, p, t, s, h, hl, hm, ho => by
    have : s = [] := List.length_eq_zero_iff.mp hl
    subst this
    exact ⟨Int.le_refl _, rfl⟩
  | d + 1, p, t, [], h, hl, hm, ho => by cases hl
  | d + 1, p, t, v :: s, h, hl, hm, ho => by
    rw [okS, Bool.and_eq_true, Bool.and_eq_true, decide_eq_true_eq] at ho
    obtain ⟨⟨o1, o2⟩, o3⟩ := ho
    have hv := hm v (.head _)
    have hb : ∀ q : Int, p + 1 ≤ q → q < p + 1 + d → rowAt L q ≤ m := fun q h1 h2 => h q (by omega) (by omega)
    obtain ⟨i1, i2⟩ := rk_at d (p + 1) (aft w t (decide (v = rowAt L p))) s hb (by rw [List.length_cons] at hl; omega) (fun u hu => hm u (.tail _ hu)) o3
    rw [rk]
    have es := sum_len (g := blk r L w m d p t) (f := Fq r L w m d p t) (xs := span (rowAt L p) v) fun x _ => blk_len hb
    obtain ⟨n, hn⟩ : ∃ n, ((span (rowAt L p) v).flatMap (blk r L w m d p t)).length = n := ⟨_, rfl⟩
    rw [hn] at es
    rw [← es]
    refine ⟨by omega, ?_⟩
    rw [Or_succ, span_cut (b := v) o1 (by omega), List.flatMap_append, List.getElem?_append_right (by rw [hn]; omega), hn, span_cons (by omega), List.flatMap_cons]
    have eb : (blk r L w m d p t v)[((n : Int) + rk r L w m d (p + 1) (aft w t (decide (v = rowAt L p))) s).toNat - n]? = some (v :: s) := by
      unfold blk
      rw [if_pos o2, List.getElem?_map, show ((n : Int) + rk r L w m d (p + 1) (aft w t (decide (v = rowAt L p))) s).toNat - n = (rk r L w m d (p + 1) (aft w t (decide (v = rowAt L p))) s).toNat by omega, i2]
      rfl
    exact getElem?_pre eb
end
def mks (L x : List Int) : List Bool := (upto x.length).map fun i => decide (rowAt x i = rowAt L i)
def tOf (L : List Int) (w : Int) (x : List Int) : List Bool := (mks L x).drop (x.length - (w.toNat - 1))
theorem rowAt_pre {x s : List Int} {z : Int} (h0 : 0 ≤ z) (h1 : z < x.length) : rowAt (x ++ s) z = rowAt x z := by
  unfold rowAt
  rw [Wl.atI_nat h0, Wl.atI_nat h0, List.getElem?_append_left (by omega)]
theorem rowAt_mid {x s : List Int} {v : Int} : rowAt (x ++ v :: s) x.length = v := by
  unfold rowAt
  rw [Wl.atI_nat (by omega), Int.toNat_natCast, List.getElem?_append_right (Nat.le_refl _), Nat.sub_self]
  rfl
theorem mks_len (L x : List Int) : (mks L x).length = x.length := by unfold mks; rw [List.length_map, upto_len]
theorem mks_snoc (L x : List Int) (v : Int) : mks L (x ++ [v]) = mks L x ++ [decide (v = rowAt L x.length)] := by
  unfold mks
  rw [List.length_append, List.length_singleton, upto_succ, List.map_append, List.map_cons, List.map_nil, rowAt_mid]
  congr 1
  refine List.map_congr_left fun i hi => ?_
  rw [upto_mem] at hi
  rw [rowAt_pre hi.1 hi.2]
theorem mks_get {L x : List Int} {i : Nat} (h : i < x.length) : (mks L x)[i]? = some (decide (rowAt x i = rowAt L i)) := by
  unfold mks upto
  rw [List.map_map, List.getElem?_map, List.getElem?_range h]
  rfl
theorem tOf_app (L : List Int) (w : Int) (x : List Int) (v : Int) : tOf L w x ++ [decide (v = rowAt L x.length)] = (mks L (x ++ [v])).drop (x.length - (w.toNat - 1)) := by
  unfold tOf
  rw [mks_snoc, List.drop_append_of_le_length (by rw [mks_len]; omega)]
theorem tOf_aft {L : List Int} {w : Int} {x : List Int} {v : Int} : aft w (tOf L w x) (decide (v = rowAt L x.length)) = tOf L w (x ++ [v]) := by
  unfold aft
  rw [tOf_app, List.drop_drop, List.length_drop, mks_len]
  unfold tOf
  congr 1
  rw [List.length_append, List.length_singleton]
  omega
theorem tOf_len {L : List Int} {w : Int} {x : List Int} : (tOf L w x).length = x.length - (x.length - (w.toNat - 1)) := by
  unfold tOf
  rw [List.length_drop, mks_len]
theorem tOf_nil (L : List Int) (w : Int) : tOf L w [] = [] := by
  unfold tOf mks
  simp [upto]
theorem hold_iff {r L x : List Int} {w v : Int} (h1 : 1 ≤ w) : hold r L w x.length (tOf L w x ++ [decide (v = rowAt L x.length)]) = true ↔ (w - 1 ≤ (x.length : Int) → ∃ z : Int, (x.length : Int) - w + 1 ≤ z ∧ z ≤ x.length ∧ rowAt L z = rowAt r ((x.length : Int) - w + 1) ∧ rowAt (x ++ [v]) z = rowAt L z) := by
  unfold hold
  rw [Bool.or_eq_true, decide_eq_true_eq, List.any_eq_true]
  by_cases c : (x.length : Int) - w + 1 < 0
  · exact ⟨fun _ h => by omega, fun _ => .inl c⟩
  · have key : ∀ k : Int, 0 ≤ k → k < w → (tOf L w x ++ [decide (v = rowAt L x.length)]).getD k.toNat false = decide (rowAt (x ++ [v]) ((x.length : Int) - w + 1 + k) = rowAt L ((x.length : Int) - w + 1 + k)) := fun k k0 k1 => by
      rw [tOf_app, List.getD_eq_getElem?_getD, List.getElem?_drop, mks_get (by rw [List.length_append, List.length_singleton]; omega)]
      rw [show ((x.length - (w.toNat - 1) + k.toNat : Nat) : Int) = (x.length : Int) - w + 1 + k by omega]
      rfl
    constructor
    · rintro (h | ⟨k, hk, h⟩) _
      · omega
      · rw [upto_mem] at hk
        rw [key k hk.1 (by omega), Bool.and_eq_true, decide_eq_true_eq, decide_eq_true_eq] at h
        exact ⟨_, by omega, by omega, h.2, h.1⟩
    · intro h
      obtain ⟨z, z1, z2, z3, z4⟩ := h (by omega)
      refine .inr ⟨z - ((x.length : Int) - w + 1), upto_mem.mpr ⟨by omega, by omega⟩, ?_⟩
      rw [key _ (by omega) (by omega), show (x.length : Int) - w + 1 + (z - ((x.length : Int) - w + 1)) = z by omega, Bool.and_eq_true, decide_eq_true_eq, decide_eq_true_eq]
      exact ⟨z4, z3⟩
theorem okS_iff {r L : List Int} {w : Int} (h1 : 1 ≤ w) : ∀ (s x : List Int), okS r L w x.length (tOf L w x) s = true ↔ ∀ q : Int, x.length ≤ q → q < (x.length : Int) + s.length → rowAt L q ≤ rowAt (x ++ s) q ∧ (w - 1 ≤ q → ∃ z, q - w + 1 ≤ z ∧ z ≤ q ∧ rowAt L z = rowAt r (q - w + 1) ∧ rowAt (x ++ s) z = rowAt L z)
  | [], x => by
    refine ⟨fun _ q q1 q2 => ?_, fun _ => rfl⟩
    simp at q2
    omega
  | v :: s, x => by
    have ih := okS_iff (r := r) (L := L) h1 s (x ++ [v])
    have ea : x ++ v :: s = (x ++ [v]) ++ s := by simp
    have el : ((x ++ [v]).length : Int) = x.length + 1 := by rw [List.length_append, List.length_singleton]; omega
    rw [okS, tOf_aft, Bool.and_eq_true, Bool.and_eq_true, decide_eq_true_eq, hold_iff h1]
    rw [← ea, el] at ih
    rw [ih]
    constructor
    · intro ⟨⟨a1, a2⟩, a3⟩ q q1 q2
      rw [List.length_cons] at q2
      by_cases c : q = x.length
      · subst c
        rw [rowAt_mid]
        refine ⟨a1, fun h => ?_⟩
        obtain ⟨z, z1, z2, z3, z4⟩ := a2 h
        refine ⟨z, z1, z2, z3, ?_⟩
        rw [ea, rowAt_pre (by omega) (by omega)]
        exact z4
      · exact a3 q (by omega) (by omega)
    · intro h
      rw [List.length_cons] at h
      refine ⟨⟨?_, fun hq => ?_⟩, fun q q1 q2 => h q (by omega) (by omega)⟩
      · have := (h x.length (Int.le_refl _) (by omega)).1
        rw [rowAt_mid] at this
        exact this
      · obtain ⟨z, z1, z2, z3, z4⟩ := (h x.length (Int.le_refl _) (by omega)).2 hq
        refine ⟨z, z1, z2, z3, ?_⟩
        rw [ea, rowAt_pre (by omega) (by omega)] at z4
        exact z4
theorem okS_low {r s : List Int} {w : Int} (h1 : 1 ≤ w) (hr : r ≠ []) (e : lowsL (upL r w) w = r) (hl : s.length = (upL r w).length) : okS r (upL r w) w 0 [] s = decide (lowsL s w = r) := by
  have ul := upL_len r w
  have rl := List.length_pos_iff.mpr hr
  have k := okS_iff (r := r) (L := upL r w) h1 s []
  rw [tOf_nil] at k
  simp only [List.length_nil, List.nil_append] at k
  have e0 : ((0 : Nat) : Int) = 0 := rfl
  rw [e0] at k
  rw [Bool.eq_iff_iff, k, decide_eq_true_eq]
  constructor
  · intro h
    refine (lows_iff (L := upL r w) h1 (by omega) e hl fun p p0 p1 => (h p p0 (by omega)).1).mpr fun i hi => ?_
    obtain ⟨z, z1, z2, z3, z4⟩ := (h ((i : Int) + w - 1) (by omega) (by omega)).2 (by omega)
    rw [show (i : Int) + w - 1 - w + 1 = i by omega] at z1 z3
    exact ⟨z, fit_mem.mpr ⟨z1, by omega, z3⟩, z4⟩
  · intro h q q1 q2
    have hge : ∀ p : Int, 0 ≤ p → p < (upL r w).length → rowAt (upL r w) p ≤ rowAt s p := fun p p0 p1 => up_least (os := s) h1 (by omega) h p0 (by omega)
    refine ⟨hge q q1 (by omega), fun hq => ?_⟩
    obtain ⟨z, z1, z2⟩ := (lows_iff (L := upL r w) h1 (by omega) e hl hge).mp h (q - w + 1).toNat (by omega)
    have f := fit_mem.mp z1
    rw [show (((q - w + 1).toNat : Nat) : Int) = q - w + 1 by omega] at f
    exact ⟨z, f.1, by omega, f.2.2, z2⟩
/-- the origins, in order -/
def orig (r : List Int) (w m : Int) : List (List Int) := (allR m (r.length + w.toNat - 1)).filter fun s => decide (lowsL s w = r)
theorem orig_mem {r s : List Int} {w m : Int} : s ∈ orig r w m ↔ s.length = r.length + w.toNat - 1 ∧ (∀ v ∈ s, 0 ≤ v ∧ v ≤ m) ∧ lowsL s w = r := by
  unfold orig
  rw [List.mem_filter, allR_mem, decide_eq_true_eq, and_assoc]
theorem orig_nodup (r : List Int) (w m : Int) : (orig r w m).Nodup := ((allR_sorted m _).filter _).imp fun {a b} h e => by
  rw [e] at h
  exact List.lt_irrefl _ h
theorem up_bound {r : List Int} {w m : Int} (h : ∀ v ∈ upL r w, 0 ≤ v ∧ v ≤ m) : ∀ q : Int, 0 ≤ q → q < 0 + ((upL r w).length : Int) → 0 ≤ rowAt (upL r w) q ∧ rowAt (upL r w) q ≤ m := fun q q0 q1 => by
  have e := rowAt_get (xs := upL r w) (p := q) q0 (by omega)
  rw [Wl.atI_nat q0] at e
  exact h _ (List.mem_of_getElem? e)
theorem Or_orig {r : List Int} {w m : Int} (h1 : 1 ≤ w) (hr : r ≠ []) (e : lowsL (upL r w) w = r) (hb : ∀ v ∈ upL r w, 0 ≤ v ∧ v ≤ m) : Or r (upL r w) w m (upL r w).length 0 [] = orig r w m := by
  rw [Or_eq _ _ _ (up_bound hb)]
  unfold orig
  rw [← upL_len r w]
  refine List.filter_congr fun s hs => ?_
  exact okS_low h1 hr e (allR_mem.mp hs).1
theorem orig_len {r : List Int} {w m : Int} (h1 : 1 ≤ w) (hr : r ≠ []) (e : lowsL (upL r w) w = r) (hb : ∀ v ∈ upL r w, 0 ≤ v ∧ v ≤ m) : ((orig r w m).length : Int) = Wy r (upL r w) w m (upL r w).length 0 [] := by
  rw [← Or_orig h1 hr e hb]
  exact Or_len _ _ _ fun q q0 q1 => (up_bound hb q q0 q1).2
/-- no origins -/
theorem orig_none {r : List Int} {w m : Int} (h1 : 1 ≤ w) (hr : r ≠ []) (h : lowsL (upL r w) w ≠ r ∨ ∃ v ∈ upL r w, m < v) : orig r w m = [] := by
  refine List.eq_nil_iff_forall_not_mem.mpr fun s hs => ?_
  obtain ⟨s1, s2, s3⟩ := orig_mem.mp hs
  have rl := List.length_pos_iff.mpr hr
  have ul := upL_len r w
  rcases h with h | ⟨v, hv, hm⟩
  · exact h (up_lows (os := s) h1 (by omega) s3)
  · obtain ⟨i, hi⟩ := List.getElem?_of_mem hv
    have hil := (List.getElem?_eq_some_iff.mp hi).1
    have g := rowAt_get (xs := upL r w) (p := i) (by omega) (by omega)
    rw [Wl.atI_nat (by omega), Int.toNat_natCast, hi] at g
    have a := up_least (os := s) (xs := r) (w := w) (p := i) h1 (by omega) s3 (by omega) (by omega)
    rw [← Option.some.inj g] at a
    have g2 := rowAt_get (xs := s) (p := i) (by omega) (by omega)
    rw [Wl.atI_nat (by omega)] at g2
    have := s2 _ (List.mem_of_getElem? g2)
    omega
theorem rk_orig {r s : List Int} {w m : Int} (h1 : 1 ≤ w) (hr : r ≠ []) (e : lowsL (upL r w) w = r) (hb : ∀ v ∈ upL r w, 0 ≤ v ∧ v ≤ m) (hs : s ∈ orig r w m) : 0 ≤ rk r (upL r w) w m (upL r w).length 0 [] s ∧ (orig r w m)[(rk r (upL r w) w m (upL r w).length 0 [] s).toNat]? = some s := by
  obtain ⟨s1, s2, s3⟩ := orig_mem.mp hs
  have ul := upL_len r w
  have k := rk_at (r := r) (L := upL r w) (w := w) (m := m) (upL r w).length 0 [] s (fun q q0 q1 => (up_bound hb q q0 q1).2) (by omega) (fun v hv => (s2 v hv).2) (by rw [okS_low h1 hr e (by omega)]; exact decide_eq_true s3)
  rw [Or_orig h1 hr e hb] at k
  exact k
theorem rk_least {r L : List Int} {w m : Int} : ∀ (d : Nat) (p : Int) (t : List Bool) (s : List Int), (∀ i : Nat, i < s.length → rowAt L (p + i) = rowAt s i) → rk r L w m d p t s = 0
  | 0, _, _, _, _ => by rw [rk] <;> intros <;> simp_all
  | d + 1, p, t, [], _ => by rw [rk] <;> intros <;> simp_all
  | d + 1, p, t, v :: s, h => by
    have h0 := h 0 (by simp)
    have hv : rowAt L p = v := by
      rw [show p + ((0 : Nat) : Int) = p by simp] at h0
      rw [h0]
      unfold rowAt
      rw [Wl.atI_nat (by omega)]
      rfl
    rw [rk, span_nil (by omega), rk_least d (p + 1) _ s fun i hi => ?_]
    · rfl
    · have := h (i + 1) (by simp; omega)
      rw [show p + 1 + (i : Int) = p + ((i + 1 : Nat) : Int) by omega, this]
      unfold rowAt
      rw [Wl.atI_nat (by omega), Wl.atI_nat (by omega)]
      simp
/-! ### the walk of the counting -/
def TB (t : List Bool) : PyData := .tuple (t.map .bool)
def key (p : Int) (t : List Bool) : PyData := .tuple [.int p, TB t]
def kb (b : Bool) : NestedKey := .num (if b = true then 1 else 0)
theorem nksD_bools : ∀ t : List Bool, nksD (t.map .bool) = some (t.map kb)
  | [] => rfl
  | b :: t => by
    rw [List.map_cons]
    unfold nksD
    rw [nksD_bools t]
    rfl
theorem nkD_key (p : Int) (t : List Bool) : nkD (key p t) = some (.tup [.num p, .tup (t.map kb)]) := by
  have e : nkD (TB t) = some (.tup (t.map kb)) := by
    unfold TB nkD
    rw [nksD_bools]
  unfold key nkD nksD nksD nksD
  rw [e]
  rfl
theorem kb_inj : ∀ {t u : List Bool}, t.map kb = u.map kb → t = u
  | [], [], _ => rfl
  | [], _ :: _, h => by cases h
  | _ :: _, [], h => by cases h
  | a :: t, b :: u, h => by
    rw [List.map_cons, List.map_cons, List.cons.injEq] at h
    rw [kb_inj h.2]
    have h1 := h.1
    cases a <;> cases b <;> first | rfl | (exact absurd h1 (by simp [kb]))
theorem keq_key (p q : Int) (t u : List Bool) : keqD (key p t) (key q u) = decide ((p, t) = (q, u)) := by
  rw [keqD_eq (nkD_key p t) (nkD_key q u)]
  by_cases h : (p, t) = (q, u)
  · cases h
    rw [decide_eq_true rfl, decide_eq_true rfl]
  · rw [decide_eq_false h, decide_eq_false]
    intro z
    rw [NestedKey.tup.injEq, List.cons.injEq, List.cons.injEq, NestedKey.num.injEq, NestedKey.tup.injEq] at z
    exact h (by rw [z.1, kb_inj z.2.1])
theorem depth_kb : ∀ t : List Bool, NestedKey.depthAll (t.map kb) ≤ 1
  | [] => by simp [NestedKey.depthAll]
  | b :: t => by
    rw [List.map_cons, NestedKey.depthAll]
    have := depth_kb t
    have e : NestedKey.depth (kb b) ≤ 1 := by simp [kb, NestedKey.depth]
    omega
theorem keyOk_key (p : Int) (t : List Bool) : keyOk (key p t) = true := by
  have h := nkD_key p t
  show (match nkD (.tuple [.int p, TB t]) with
    | some k => decide (k.depth ≤ 8)
    | none => false) = true
  unfold key at h
  rw [h]
  have := depth_kb t
  refine decide_eq_true ?_
  simp only [NestedKey.depth, NestedKey.depthAll]
  omega
section
variable (r L : List Int) (w m : Int)
def Vy (p : Int) (t : List Bool) : Int := Wy r L w m (L.length - p.toNat) p t
def KV (es : List (Int × List Bool)) : List (PyData × PyData) := es.map fun q => (key q.1 q.2, .int (Vy r L w m q.1 q.2))
def insE (es : List (Int × List Bool)) (p : Int) (t : List Bool) : List (Int × List Bool) := if (p, t) ∈ es then es else es ++ [(p, t)]
end
section
variable {r L : List Int} {w m : Int}
theorem dlook_KV (p : Int) (t : List Bool) : ∀ es, dlook (key p t) (KV r L w m es) = if (p, t) ∈ es then some (.int (Vy r L w m p t)) else none
  | [] => rfl
  | q :: es => by
    unfold KV
    rw [List.map_cons, dlook, keq_key]
    by_cases h : (q.1, q.2) = (p, t)
    · rw [decide_eq_true h, if_pos rfl, if_pos (by rw [← h]; exact .head _)]
      rw [show q.1 = p from congrArg Prod.fst h, show q.2 = t from congrArg Prod.snd h]
    · rw [decide_eq_false h, if_neg Bool.false_ne_true]
      refine (dlook_KV p t es).trans ?_
      by_cases c : (p, t) ∈ es
      · rw [if_pos c, if_pos (.tail _ c)]
      · rw [if_neg c, if_neg fun z => by
          rcases List.mem_cons.mp z with z | z
          · exact h z.symm
          · exact c z]
theorem dput_KV (p : Int) (t : List Bool) (es : List (Int × List Bool)) : dput (key p t) (.int (Vy r L w m p t)) (KV r L w m es) = KV r L w m (insE es p t) := by
  unfold dput insE
  rw [dlook_KV]
  by_cases c : (p, t) ∈ es
  · rw [if_pos c, if_pos c]
    show (KV r L w m es).map _ = _
    unfold KV
    rw [List.map_map]
    refine List.map_congr_left fun q _ => ?_
    show (if keqD (key q.1 q.2) (key p t) = true then _ else _) = _
    rw [keq_key]
    by_cases h : (q.1, q.2) = (p, t)
    · rw [decide_eq_true h, if_pos rfl]
      show (key q.1 q.2, PyData.int (Vy r L w m p t)) = (key q.1 q.2, PyData.int (Vy r L w m q.1 q.2))
      rw [show q.1 = p from congrArg Prod.fst h, show q.2 = t from congrArg Prod.snd h]
    · rw [decide_eq_false h, if_neg Bool.false_ne_true]
  · rw [if_neg c, if_neg c]
    show KV r L w m es ++ [(key p t, .int (Vy r L w m p t))] = _
    unfold KV
    rw [List.map_append]
    rfl
theorem insE_len (es : List (Int × List Bool)) (p : Int) (t : List Bool) : (insE es p t).length ≤ es.length + 1 := by
  unfold insE
  split
  · omega
  · rw [List.length_append]
    exact Nat.le_refl _
theorem KV_len (es : List (Int × List Bool)) : (KV r L w m es).length = es.length := by
  unfold KV
  rw [List.length_map]
end
theorem cat_TB {t : List Bool} {b : Bool} (h : t.length ≤ 1000) : binD .add (TB t) (.tuple [.bool b]) = some (TB (t ++ [b])) := by
  show (if (t.map PyData.bool).length + 1 ≤ cap then some (PyData.tuple (t.map .bool ++ [.bool b])) else none) = _
  rw [if_pos (show (t.map PyData.bool).length + 1 ≤ cap by rw [List.length_map]; exact Nat.le_trans (show t.length + 1 ≤ 1001 by omega) (by decide))]
  unfold TB
  rw [List.map_append]
  rfl
theorem sub_TB {t : List Bool} {k : Int} (h0 : 0 ≤ k) (h1 : k < t.length) : subD (TB t) k = some (.bool (t.getD k.toNat false)) := by
  show atI (t.map PyData.bool) k = _
  rw [Wl.atI_nat h0, List.getElem?_map, List.getD_eq_getElem?_getD, List.getElem?_eq_getElem (by omega)]
  rfl
theorem sli_TB {t : List Bool} {v : Int} (h : v < 0) : sliD (TB t) (some v) none = some (TB (t.drop (v + t.length).toNat)) := by
  show some (PyData.tuple (cutD (t.map .bool) (some v) none)) = _
  have e : ∀ n : Nat, ((t.map PyData.bool).drop n).take (t.length - n) = (t.drop n).map PyData.bool := fun n => by
    rw [List.take_of_length_le (by rw [List.length_drop, List.length_map]; exact Nat.le_refl _), List.map_drop]
  unfold cutD
  rw [List.length_map, show HT.sIx t.length 0 (some v) = (v + (t.length : Int)).toNat from if_pos h, show HT.sIx t.length t.length none = t.length from rfl, e]
  rfl
/-- how long the marks are -/
def gd (w p : Int) (t : List Bool) : Prop := (t.length : Int) = if p < w - 1 then p else w - 1
theorem gd_aft {w p : Int} {t : List Bool} {b : Bool} (h1 : 1 ≤ w) (p0 : 0 ≤ p) (h : gd w p t) : gd w (p + 1) (aft w t b) := by
  unfold gd at *
  unfold aft
  rw [List.length_drop, List.length_append, List.length_singleton]
  split at h <;> split <;> omega
theorem holds_call {k : Nat} {M : MH} {r L : List Int} {w p : Int} {t : List Bool} (h1 : 1 ≤ w) (hw : w ≤ 900) (p0 : 0 ≤ p) (hp : p < L.length) (hr : (r.length : Int) + w = L.length + 1) (ht : w - 1 ≤ p → (t.length : Int) = w) : callW (run T (k + 1)) 0 13 [.d (LI r), .d (LI L), .d (.int w), .d (.int p), .d (TB t)] M = some (.val (.d (.bool (hold r L w p t))) M) := by
  refine call0 (M' := []) ?_ rfl
  refine run_ret (fi := i13) (M' := []) rfl rfl ?_
  simp only [i13, startW, List.map_cons, List.map_nil, List.length_cons, List.length_nil, Nat.reduceAdd, Nat.reduceSub, List.replicate_succ, List.replicate_zero, List.cons_append, List.nil_append]
  unfold hold
  apply Eq.trans
  · apply exSs_cons
    (simp only [exSs, exS, ev.eq_1, ev.eq_2, ev.eq_3, ev.eq_4, ev.eq_5, ev.eq_6, ev.eq_7, ev.eq_8, ev.eq_9, ev.eq_10, ev.eq_11, ev.eq_12, ev.eq_13, ev.eq_14, ev.eq_15, ev.eq_16, ev.eq_17, ev.eq_18, ev.eq_19, ev.eq_21, ev.eq_22, ev.eq_23, ev.eq_24, ev.eq_25, ev.eq_26, ev.eq_27, ev.eq_28, ev.eq_29, evs, evO, evB, evC, evi, obO, obL, obI, obP, obS, obLS, obIS, Wl.ret, retB, dat, dats, views, view, startW, fin, put, putAll, setAll, wipeW, List.map_cons, List.map_nil, List.length_cons, List.length_nil, List.cons_append, List.nil_append, Nat.reduceAdd, Nat.reduceSub, Nat.reduceEqDiff, List.replicate_succ, List.replicate_zero, List.getElem?_cons_zero, List.getElem?_cons_succ, List.set_cons_zero, List.set_cons_succ, Option.map_some, len_LI, len_list, add_int, sub_int, mod_int, fdv_int, mul_int, pow_int, lt_int, le_int, gt_int, ge_int, eq_int, ne_int, eq_LI, ne_LI, inn_LI, nin_LI, sli_LI, sub_LI, seq_LI, cmpW_d, is_bool, isn_bool, Bool.not_true, Bool.not_false, beq_self_eq_true, ite_true, if_true, Bool.false_eq_true, if_false, reduceIte, Dw_frz, frz_0, frz_VL, ne_bool, eq_bool, sorted_LI, seq_VL, eq_VL, ne_VL, pair_0, pair_1, len_VL, newL_f, onlyL_LI, mthO_index, max2_int, min2_int, Dw_get, Dw_set, Dw_app, Dw_len, isiW_d, isi_int_int, isi_int_bool, isi_int_list, isi_int_tuple, isi_int_str, isi_int_none, isi_int_LI, isi_int_VL, isi_bool_int, isi_bool_bool, isi_bool_list, isi_bool_tuple, isi_bool_str, isi_bool_none, isi_bool_LI, isi_bool_VL, isi_list_int, isi_list_bool, isi_list_list, isi_list_tuple, isi_list_str, isi_list_none, isi_list_LI, isi_list_VL, isi_tuple_int, isi_tuple_bool, isi_tuple_list, isi_tuple_tuple, isi_tuple_str, isi_tuple_none, isi_tuple_LI, isi_tuple_VL, isi_str_int, isi_str_bool, isi_str_list, isi_str_tuple, isi_str_str, isi_str_none, isi_str_LI, isi_str_VL, decide_true, decide_false, Bool.and_true, Bool.and_false, Bool.true_and, Bool.false_and, Bool.or_true, Bool.or_false, reduceCtorEq]) <;> rfl
  by_cases c : p - w + 1 < 0
  · rw [decide_eq_true c, Bool.true_or]
    rw [exSs_rt (w := .d (.bool true)) (M1 := [])]
    simp only [exSs, exS, ev.eq_1, ev.eq_2, ev.eq_3, ev.eq_4, ev.eq_5, ev.eq_6, ev.eq_7, ev.eq_8, ev.eq_9, ev.eq_10, ev.eq_11, ev.eq_12, ev.eq_13, ev.eq_14, ev.eq_15, ev.eq_16, ev.eq_17, ev.eq_18, ev.eq_19, ev.eq_21, ev.eq_22, ev.eq_23, ev.eq_24, ev.eq_25, ev.eq_26, ev.eq_27, ev.eq_28, ev.eq_29, evs, evO, evB, evC, evi, obO, obL, obI, obP, obS, obLS, obIS, Wl.ret, retB, dat, dats, views, view, startW, fin, put, putAll, setAll, wipeW, List.map_cons, List.map_nil, List.length_cons, List.length_nil, List.cons_append, List.nil_append, Nat.reduceAdd, Nat.reduceSub, Nat.reduceEqDiff, List.replicate_succ, List.replicate_zero, List.getElem?_cons_zero, List.getElem?_cons_succ, List.set_cons_zero, List.set_cons_succ, Option.map_some, len_LI, len_list, add_int, sub_int, mod_int, fdv_int, mul_int, pow_int, lt_int, le_int, gt_int, ge_int, eq_int, ne_int, eq_LI, ne_LI, inn_LI, nin_LI, sli_LI, sub_LI, seq_LI, cmpW_d, is_bool, isn_bool, Bool.not_true, Bool.not_false, beq_self_eq_true, ite_true, if_true, Bool.false_eq_true, if_false, reduceIte, Dw_frz, frz_0, frz_VL, ne_bool, eq_bool, sorted_LI, seq_VL, eq_VL, ne_VL, pair_0, pair_1, len_VL, newL_f, onlyL_LI, mthO_index, max2_int, min2_int, Dw_get, Dw_set, Dw_app, Dw_len, isiW_d, isi_int_int, isi_int_bool, isi_int_list, isi_int_tuple, isi_int_str, isi_int_none, isi_int_LI, isi_int_VL, isi_bool_int, isi_bool_bool, isi_bool_list, isi_bool_tuple, isi_bool_str, isi_bool_none, isi_bool_LI, isi_bool_VL, isi_list_int, isi_list_bool, isi_list_list, isi_list_tuple, isi_list_str, isi_list_none, isi_list_LI, isi_list_VL, isi_tuple_int, isi_tuple_bool, isi_tuple_list, isi_tuple_tuple, isi_tuple_str, isi_tuple_none, isi_tuple_LI, isi_tuple_VL, isi_str_int, isi_str_bool, isi_str_list, isi_str_tuple, isi_str_str, isi_str_none, isi_str_LI, isi_str_VL, decide_true, decide_false, Bool.and_true, Bool.and_false, Bool.true_and, Bool.false_and, Bool.or_true, Bool.or_false, reduceCtorEq, decide_eq_true c]
  · rw [decide_eq_false c, Bool.false_or]
    have tl := ht (by omega)
    apply Eq.trans
    · apply exSs_cons
      (simp only [exSs, exS, ev.eq_1, ev.eq_2, ev.eq_3, ev.eq_4, ev.eq_5, ev.eq_6, ev.eq_7, ev.eq_8, ev.eq_9, ev.eq_10, ev.eq_11, ev.eq_12, ev.eq_13, ev.eq_14, ev.eq_15, ev.eq_16, ev.eq_17, ev.eq_18, ev.eq_19, ev.eq_21, ev.eq_22, ev.eq_23, ev.eq_24, ev.eq_25, ev.eq_26, ev.eq_27, ev.eq_28, ev.eq_29, evs, evO, evB, evC, evi, obO, obL, obI, obP, obS, obLS, obIS, Wl.ret, retB, dat, dats, views, view, startW, fin, put, putAll, setAll, wipeW, List.map_cons, List.map_nil, List.length_cons, List.length_nil, List.cons_append, List.nil_append, Nat.reduceAdd, Nat.reduceSub, Nat.reduceEqDiff, List.replicate_succ, List.replicate_zero, List.getElem?_cons_zero, List.getElem?_cons_succ, List.set_cons_zero, List.set_cons_succ, Option.map_some, len_LI, len_list, add_int, sub_int, mod_int, fdv_int, mul_int, pow_int, lt_int, le_int, gt_int, ge_int, eq_int, ne_int, eq_LI, ne_LI, inn_LI, nin_LI, sli_LI, sub_LI, seq_LI, cmpW_d, is_bool, isn_bool, Bool.not_true, Bool.not_false, beq_self_eq_true, ite_true, if_true, Bool.false_eq_true, if_false, reduceIte, Dw_frz, frz_0, frz_VL, ne_bool, eq_bool, sorted_LI, seq_VL, eq_VL, ne_VL, pair_0, pair_1, len_VL, newL_f, onlyL_LI, mthO_index, max2_int, min2_int, Dw_get, Dw_set, Dw_app, Dw_len, isiW_d, isi_int_int, isi_int_bool, isi_int_list, isi_int_tuple, isi_int_str, isi_int_none, isi_int_LI, isi_int_VL, isi_bool_int, isi_bool_bool, isi_bool_list, isi_bool_tuple, isi_bool_str, isi_bool_none, isi_bool_LI, isi_bool_VL, isi_list_int, isi_list_bool, isi_list_list, isi_list_tuple, isi_list_str, isi_list_none, isi_list_LI, isi_list_VL, isi_tuple_int, isi_tuple_bool, isi_tuple_list, isi_tuple_tuple, isi_tuple_str, isi_tuple_none, isi_tuple_LI, isi_tuple_VL, isi_str_int, isi_str_bool, isi_str_list, isi_str_tuple, isi_str_str, isi_str_none, isi_str_LI, isi_str_VL, decide_true, decide_false, Bool.and_true, Bool.and_false, Bool.true_and, Bool.false_and, Bool.or_true, Bool.or_false, reduceCtorEq, decide_eq_false c]) <;> rfl
    have es : sliD (TB t) (some (-w)) none = some (TB t) := by
      rw [sli_TB (by omega), show (-w + (t.length : Int)).toNat = 0 by omega, List.drop_zero]
    apply Eq.trans
    · apply exSs_cons
      (simp only [exSs, exS, ev.eq_1, ev.eq_2, ev.eq_3, ev.eq_4, ev.eq_5, ev.eq_6, ev.eq_7, ev.eq_8, ev.eq_9, ev.eq_10, ev.eq_11, ev.eq_12, ev.eq_13, ev.eq_14, ev.eq_15, ev.eq_16, ev.eq_17, ev.eq_18, ev.eq_19, ev.eq_21, ev.eq_22, ev.eq_23, ev.eq_24, ev.eq_25, ev.eq_26, ev.eq_27, ev.eq_28, ev.eq_29, evs, evO, evB, evC, evi, obO, obL, obI, obP, obS, obLS, obIS, Wl.ret, retB, dat, dats, views, view, startW, fin, put, putAll, setAll, wipeW, List.map_cons, List.map_nil, List.length_cons, List.length_nil, List.cons_append, List.nil_append, Nat.reduceAdd, Nat.reduceSub, Nat.reduceEqDiff, List.replicate_succ, List.replicate_zero, List.getElem?_cons_zero, List.getElem?_cons_succ, List.set_cons_zero, List.set_cons_succ, Option.map_some, len_LI, len_list, add_int, sub_int, mod_int, fdv_int, mul_int, pow_int, lt_int, le_int, gt_int, ge_int, eq_int, ne_int, eq_LI, ne_LI, inn_LI, nin_LI, sli_LI, sub_LI, seq_LI, cmpW_d, is_bool, isn_bool, Bool.not_true, Bool.not_false, beq_self_eq_true, ite_true, if_true, Bool.false_eq_true, if_false, reduceIte, Dw_frz, frz_0, frz_VL, ne_bool, eq_bool, sorted_LI, seq_VL, eq_VL, ne_VL, pair_0, pair_1, len_VL, newL_f, onlyL_LI, mthO_index, max2_int, min2_int, Dw_get, Dw_set, Dw_app, Dw_len, isiW_d, isi_int_int, isi_int_bool, isi_int_list, isi_int_tuple, isi_int_str, isi_int_none, isi_int_LI, isi_int_VL, isi_bool_int, isi_bool_bool, isi_bool_list, isi_bool_tuple, isi_bool_str, isi_bool_none, isi_bool_LI, isi_bool_VL, isi_list_int, isi_list_bool, isi_list_list, isi_list_tuple, isi_list_str, isi_list_none, isi_list_LI, isi_list_VL, isi_tuple_int, isi_tuple_bool, isi_tuple_list, isi_tuple_tuple, isi_tuple_str, isi_tuple_none, isi_tuple_LI, isi_tuple_VL, isi_str_int, isi_str_bool, isi_str_list, isi_str_tuple, isi_str_str, isi_str_none, isi_str_LI, isi_str_VL, decide_true, decide_false, Bool.and_true, Bool.and_false, Bool.true_and, Bool.false_and, Bool.or_true, Bool.or_false, reduceCtorEq, es]) <;> rfl
    rw [exSs_rt (w := .d (.bool ((upto w.toNat).any fun k => (t.getD k.toNat false) && decide (rowAt L (p - w + 1 + k) = rowAt r (p - w + 1))))) (M1 := [])]
    have lc : ev (run T k) (.lc false [7] (.rng (.cons (.var 2) .nil)) [7] .nil (.bop true (.cons (.sub (.var 6) (.var 7)) (.cons (.cmp .eq (.sub (.var 1) (.bin .add (.var 5) (.var 7))) (.sub (.var 0) (.var 5))) .nil)))) [some (.d (LI r)), some (.d (LI L)), some (.d (.int w)), some (.d (.int p)), some (.d (TB t)), some (.d (.int (p - w + 1))), some (.d (TB t)), none] [] = some (.val (.d (.list (((upto w.toNat).map fun k => (t.getD k.toNat false) && decide (rowAt L (p - w + 1 + k) = rowAt r (p - w + 1))).map .bool))) []) := by
      rw [ev_lcS (xs := (upto w.toNat).map .int) (ys := (upto w.toNat).map fun k => .bool ((t.getD k.toNat false) && decide (rowAt L (p - w + 1 + k) = rowAt r (p - w + 1)))) (M1 := []) (M2 := [])]
      · rw [List.map_map]
        rfl
      · (simp only [exSs, exS, ev.eq_1, ev.eq_2, ev.eq_3, ev.eq_4, ev.eq_5, ev.eq_6, ev.eq_7, ev.eq_8, ev.eq_9, ev.eq_10, ev.eq_11, ev.eq_12, ev.eq_13, ev.eq_14, ev.eq_15, ev.eq_16, ev.eq_17, ev.eq_18, ev.eq_19, ev.eq_21, ev.eq_22, ev.eq_23, ev.eq_24, ev.eq_25, ev.eq_26, ev.eq_27, ev.eq_28, ev.eq_29, evs, evO, evB, evC, evi, obO, obL, obI, obP, obS, obLS, obIS, Wl.ret, retB, dat, dats, views, view, startW, fin, put, putAll, setAll, wipeW, List.map_cons, List.map_nil, List.length_cons, List.length_nil, List.cons_append, List.nil_append, Nat.reduceAdd, Nat.reduceSub, Nat.reduceEqDiff, List.replicate_succ, List.replicate_zero, List.getElem?_cons_zero, List.getElem?_cons_succ, List.set_cons_zero, List.set_cons_succ, Option.map_some, len_LI, len_list, add_int, sub_int, mod_int, fdv_int, mul_int, pow_int, lt_int, le_int, gt_int, ge_int, eq_int, ne_int, eq_LI, ne_LI, inn_LI, nin_LI, sli_LI, sub_LI, seq_LI, cmpW_d, is_bool, isn_bool, Bool.not_true, Bool.not_false, beq_self_eq_true, ite_true, if_true, Bool.false_eq_true, if_false, reduceIte, Dw_frz, frz_0, frz_VL, ne_bool, eq_bool, sorted_LI, seq_VL, eq_VL, ne_VL, pair_0, pair_1, len_VL, newL_f, onlyL_LI, mthO_index, max2_int, min2_int, Dw_get, Dw_set, Dw_app, Dw_len, isiW_d, isi_int_int, isi_int_bool, isi_int_list, isi_int_tuple, isi_int_str, isi_int_none, isi_int_LI, isi_int_VL, isi_bool_int, isi_bool_bool, isi_bool_list, isi_bool_tuple, isi_bool_str, isi_bool_none, isi_bool_LI, isi_bool_VL, isi_list_int, isi_list_bool, isi_list_list, isi_list_tuple, isi_list_str, isi_list_none, isi_list_LI, isi_list_VL, isi_tuple_int, isi_tuple_bool, isi_tuple_list, isi_tuple_tuple, isi_tuple_str, isi_tuple_none, isi_tuple_LI, isi_tuple_VL, isi_str_int, isi_str_bool, isi_str_list, isi_str_tuple, isi_str_str, isi_str_none, isi_str_LI, isi_str_VL, decide_true, decide_false, Bool.and_true, Bool.and_false, Bool.true_and, Bool.false_and, Bool.or_true, Bool.or_false, reduceCtorEq, rng1 (j := w) (by omega)]) <;> rfl
      · refine lcF_map fun q hq => ?_
        rw [upto_mem] at hq
        have g1 := sub_TB (t := t) (k := q) hq.1 (by omega)
        have g2 := rowAt_get (xs := L) (p := p - w + 1 + q) (by omega) (by omega)
        have g3 := rowAt_get (xs := r) (p := p - w + 1) (by omega) (by omega)
        cases hb : t.getD q.toNat false with
        | true =>
          rw [hb] at g1
          simp only [exSs, exS, ev.eq_1, ev.eq_2, ev.eq_3, ev.eq_4, ev.eq_5, ev.eq_6, ev.eq_7, ev.eq_8, ev.eq_9, ev.eq_10, ev.eq_11, ev.eq_12, ev.eq_13, ev.eq_14, ev.eq_15, ev.eq_16, ev.eq_17, ev.eq_18, ev.eq_19, ev.eq_21, ev.eq_22, ev.eq_23, ev.eq_24, ev.eq_25, ev.eq_26, ev.eq_27, ev.eq_28, ev.eq_29, evs, evO, evB, evC, evi, obO, obL, obI, obP, obS, obLS, obIS, Wl.ret, retB, dat, dats, views, view, startW, fin, put, putAll, setAll, wipeW, List.map_cons, List.map_nil, List.length_cons, List.length_nil, List.cons_append, List.nil_append, Nat.reduceAdd, Nat.reduceSub, Nat.reduceEqDiff, List.replicate_succ, List.replicate_zero, List.getElem?_cons_zero, List.getElem?_cons_succ, List.set_cons_zero, List.set_cons_succ, Option.map_some, len_LI, len_list, add_int, sub_int, mod_int, fdv_int, mul_int, pow_int, lt_int, le_int, gt_int, ge_int, eq_int, ne_int, eq_LI, ne_LI, inn_LI, nin_LI, sli_LI, sub_LI, seq_LI, cmpW_d, is_bool, isn_bool, Bool.not_true, Bool.not_false, beq_self_eq_true, ite_true, if_true, Bool.false_eq_true, if_false, reduceIte, Dw_frz, frz_0, frz_VL, ne_bool, eq_bool, sorted_LI, seq_VL, eq_VL, ne_VL, pair_0, pair_1, len_VL, newL_f, onlyL_LI, mthO_index, max2_int, min2_int, Dw_get, Dw_set, Dw_app, Dw_len, isiW_d, isi_int_int, isi_int_bool, isi_int_list, isi_int_tuple, isi_int_str, isi_int_none, isi_int_LI, isi_int_VL, isi_bool_int, isi_bool_bool, isi_bool_list, isi_bool_tuple, isi_bool_str, isi_bool_none, isi_bool_LI, isi_bool_VL, isi_list_int, isi_list_bool, isi_list_list, isi_list_tuple, isi_list_str, isi_list_none, isi_list_LI, isi_list_VL, isi_tuple_int, isi_tuple_bool, isi_tuple_list, isi_tuple_tuple, isi_tuple_str, isi_tuple_none, isi_tuple_LI, isi_tuple_VL, isi_str_int, isi_str_bool, isi_str_list, isi_str_tuple, isi_str_str, isi_str_none, isi_str_LI, isi_str_VL, decide_true, decide_false, Bool.and_true, Bool.and_false, Bool.true_and, Bool.false_and, Bool.or_true, Bool.or_false, reduceCtorEq, g1, g2, g3]
        | false =>
          rw [hb] at g1
          simp only [exSs, exS, ev.eq_1, ev.eq_2, ev.eq_3, ev.eq_4, ev.eq_5, ev.eq_6, ev.eq_7, ev.eq_8, ev.eq_9, ev.eq_10, ev.eq_11, ev.eq_12, ev.eq_13, ev.eq_14, ev.eq_15, ev.eq_16, ev.eq_17, ev.eq_18, ev.eq_19, ev.eq_21, ev.eq_22, ev.eq_23, ev.eq_24, ev.eq_25, ev.eq_26, ev.eq_27, ev.eq_28, ev.eq_29, evs, evO, evB, evC, evi, obO, obL, obI, obP, obS, obLS, obIS, Wl.ret, retB, dat, dats, views, view, startW, fin, put, putAll, setAll, wipeW, List.map_cons, List.map_nil, List.length_cons, List.length_nil, List.cons_append, List.nil_append, Nat.reduceAdd, Nat.reduceSub, Nat.reduceEqDiff, List.replicate_succ, List.replicate_zero, List.getElem?_cons_zero, List.getElem?_cons_succ, List.set_cons_zero, List.set_cons_succ, Option.map_some, len_LI, len_list, add_int, sub_int, mod_int, fdv_int, mul_int, pow_int, lt_int, le_int, gt_int, ge_int, eq_int, ne_int, eq_LI, ne_LI, inn_LI, nin_LI, sli_LI, sub_LI, seq_LI, cmpW_d, is_bool, isn_bool, Bool.not_true, Bool.not_false, beq_self_eq_true, ite_true, if_true, Bool.false_eq_true, if_false, reduceIte, Dw_frz, frz_0, frz_VL, ne_bool, eq_bool, sorted_LI, seq_VL, eq_VL, ne_VL, pair_0, pair_1, len_VL, newL_f, onlyL_LI, mthO_index, max2_int, min2_int, Dw_get, Dw_set, Dw_app, Dw_len, isiW_d, isi_int_int, isi_int_bool, isi_int_list, isi_int_tuple, isi_int_str, isi_int_none, isi_int_LI, isi_int_VL, isi_bool_int, isi_bool_bool, isi_bool_list, isi_bool_tuple, isi_bool_str, isi_bool_none, isi_bool_LI, isi_bool_VL, isi_list_int, isi_list_bool, isi_list_list, isi_list_tuple, isi_list_str, isi_list_none, isi_list_LI, isi_list_VL, isi_tuple_int, isi_tuple_bool, isi_tuple_list, isi_tuple_tuple, isi_tuple_str, isi_tuple_none, isi_tuple_LI, isi_tuple_VL, isi_str_int, isi_str_bool, isi_str_list, isi_str_tuple, isi_str_str, isi_str_none, isi_str_LI, isi_str_VL, decide_true, decide_false, Bool.and_true, Bool.and_false, Bool.true_and, Bool.false_and, Bool.or_true, Bool.or_false, reduceCtorEq, g1]
      · rw [List.length_map, upto_len]
        exact cap_of (by omega)
    rw [exS]
    simp only [↓lc, exSs, exS, ev.eq_1, ev.eq_2, ev.eq_3, ev.eq_4, ev.eq_5, ev.eq_6, ev.eq_7, ev.eq_8, ev.eq_9, ev.eq_10, ev.eq_11, ev.eq_12, ev.eq_13, ev.eq_14, ev.eq_15, ev.eq_16, ev.eq_17, ev.eq_18, ev.eq_19, ev.eq_21, ev.eq_22, ev.eq_23, ev.eq_24, ev.eq_25, ev.eq_26, ev.eq_27, ev.eq_28, ev.eq_29, evs, evO, evB, evC, evi, obO, obL, obI, obP, obS, obLS, obIS, Wl.ret, retB, dat, dats, views, view, startW, fin, put, putAll, setAll, wipeW, List.map_cons, List.map_nil, List.length_cons, List.length_nil, List.cons_append, List.nil_append, Nat.reduceAdd, Nat.reduceSub, Nat.reduceEqDiff, List.replicate_succ, List.replicate_zero, List.getElem?_cons_zero, List.getElem?_cons_succ, List.set_cons_zero, List.set_cons_succ, Option.map_some, len_LI, len_list, add_int, sub_int, mod_int, fdv_int, mul_int, pow_int, lt_int, le_int, gt_int, ge_int, eq_int, ne_int, eq_LI, ne_LI, inn_LI, nin_LI, sli_LI, sub_LI, seq_LI, cmpW_d, is_bool, isn_bool, Bool.not_true, Bool.not_false, beq_self_eq_true, ite_true, if_true, Bool.false_eq_true, if_false, reduceIte, Dw_frz, frz_0, frz_VL, ne_bool, eq_bool, sorted_LI, seq_VL, eq_VL, ne_VL, pair_0, pair_1, len_VL, newL_f, onlyL_LI, mthO_index, max2_int, min2_int, Dw_get, Dw_set, Dw_app, Dw_len, isiW_d, isi_int_int, isi_int_bool, isi_int_list, isi_int_tuple, isi_int_str, isi_int_none, isi_int_LI, isi_int_VL, isi_bool_int, isi_bool_bool, isi_bool_list, isi_bool_tuple, isi_bool_str, isi_bool_none, isi_bool_LI, isi_bool_VL, isi_list_int, isi_list_bool, isi_list_list, isi_list_tuple, isi_list_str, isi_list_none, isi_list_LI, isi_list_VL, isi_tuple_int, isi_tuple_bool, isi_tuple_list, isi_tuple_tuple, isi_tuple_str, isi_tuple_none, isi_tuple_LI, isi_tuple_VL, isi_str_int, isi_str_bool, isi_str_list, isi_str_tuple, isi_str_str, isi_str_none, isi_str_LI, isi_str_VL, decide_true, decide_false, Bool.and_true, Bool.and_false, Bool.true_and, Bool.false_and, Bool.or_true, Bool.or_false, reduceCtorEq, any_LB, List.any_map]
    rfl
theorem after_call {k : Nat} {M : MH} {w : Int} {t : List Bool} {b : Bool} (h1 : 1 ≤ w) (ht : t.length ≤ 900) : callW (run T (k + 1)) 0 14 [.d (TB t), .d (.bool b), .d (.int w)] M = some (.val (.d (TB (aft w t b))) M) := by
  refine call0 (M' := []) ?_ rfl
  rw [run_eq (fi := i14) rfl rfl]
  have k0 : (0 : Nat) ≤ cap := by decide
  have k1 : (1 : Nat) ≤ cap := by decide
  have ca := cat_TB (t := t) (b := b) (by omega)
  by_cases c : 1 < w
  · have es : sliD (TB (t ++ [b])) (some (-w + 1)) none = some (TB (aft w t b)) := by
      rw [sli_TB (by omega)]
      unfold aft
      congr 3
      omega
    simp only [i14, exSs, exS, ev.eq_1, ev.eq_2, ev.eq_3, ev.eq_4, ev.eq_5, ev.eq_6, ev.eq_7, ev.eq_8, ev.eq_9, ev.eq_10, ev.eq_11, ev.eq_12, ev.eq_13, ev.eq_14, ev.eq_15, ev.eq_16, ev.eq_17, ev.eq_18, ev.eq_19, ev.eq_21, ev.eq_22, ev.eq_23, ev.eq_24, ev.eq_25, ev.eq_26, ev.eq_27, ev.eq_28, ev.eq_29, evs, evO, evB, evC, evi, obO, obL, obI, obP, obS, obLS, obIS, Wl.ret, retB, dat, dats, views, view, startW, fin, put, putAll, setAll, wipeW, List.map_cons, List.map_nil, List.length_cons, List.length_nil, List.cons_append, List.nil_append, Nat.reduceAdd, Nat.reduceSub, Nat.reduceEqDiff, List.replicate_succ, List.replicate_zero, List.getElem?_cons_zero, List.getElem?_cons_succ, List.set_cons_zero, List.set_cons_succ, Option.map_some, len_LI, len_list, add_int, sub_int, mod_int, fdv_int, mul_int, pow_int, lt_int, le_int, gt_int, ge_int, eq_int, ne_int, eq_LI, ne_LI, inn_LI, nin_LI, sli_LI, sub_LI, seq_LI, cmpW_d, is_bool, isn_bool, Bool.not_true, Bool.not_false, beq_self_eq_true, ite_true, if_true, Bool.false_eq_true, if_false, reduceIte, Dw_frz, frz_0, frz_VL, ne_bool, eq_bool, sorted_LI, seq_VL, eq_VL, ne_VL, pair_0, pair_1, len_VL, newL_f, onlyL_LI, mthO_index, max2_int, min2_int, Dw_get, Dw_set, Dw_app, Dw_len, isiW_d, isi_int_int, isi_int_bool, isi_int_list, isi_int_tuple, isi_int_str, isi_int_none, isi_int_LI, isi_int_VL, isi_bool_int, isi_bool_bool, isi_bool_list, isi_bool_tuple, isi_bool_str, isi_bool_none, isi_bool_LI, isi_bool_VL, isi_list_int, isi_list_bool, isi_list_list, isi_list_tuple, isi_list_str, isi_list_none, isi_list_LI, isi_list_VL, isi_tuple_int, isi_tuple_bool, isi_tuple_list, isi_tuple_tuple, isi_tuple_str, isi_tuple_none, isi_tuple_LI, isi_tuple_VL, isi_str_int, isi_str_bool, isi_str_list, isi_str_tuple, isi_str_str, isi_str_none, isi_str_LI, isi_str_VL, decide_true, decide_false, Bool.and_true, Bool.and_false, Bool.true_and, Bool.false_and, Bool.or_true, Bool.or_false, reduceCtorEq, decide_eq_true c, k1, ca, es]
  · have e : aft w t b = [] := by
      unfold aft
      rw [List.drop_eq_nil_iff]
      omega
    rw [e]
    simp only [i14, exSs, exS, ev.eq_1, ev.eq_2, ev.eq_3, ev.eq_4, ev.eq_5, ev.eq_6, ev.eq_7, ev.eq_8, ev.eq_9, ev.eq_10, ev.eq_11, ev.eq_12, ev.eq_13, ev.eq_14, ev.eq_15, ev.eq_16, ev.eq_17, ev.eq_18, ev.eq_19, ev.eq_21, ev.eq_22, ev.eq_23, ev.eq_24, ev.eq_25, ev.eq_26, ev.eq_27, ev.eq_28, ev.eq_29, evs, evO, evB, evC, evi, obO, obL, obI, obP, obS, obLS, obIS, Wl.ret, retB, dat, dats, views, view, startW, fin, put, putAll, setAll, wipeW, List.map_cons, List.map_nil, List.length_cons, List.length_nil, List.cons_append, List.nil_append, Nat.reduceAdd, Nat.reduceSub, Nat.reduceEqDiff, List.replicate_succ, List.replicate_zero, List.getElem?_cons_zero, List.getElem?_cons_succ, List.set_cons_zero, List.set_cons_succ, Option.map_some, len_LI, len_list, add_int, sub_int, mod_int, fdv_int, mul_int, pow_int, lt_int, le_int, gt_int, ge_int, eq_int, ne_int, eq_LI, ne_LI, inn_LI, nin_LI, sli_LI, sub_LI, seq_LI, cmpW_d, is_bool, isn_bool, Bool.not_true, Bool.not_false, beq_self_eq_true, ite_true, if_true, Bool.false_eq_true, if_false, reduceIte, Dw_frz, frz_0, frz_VL, ne_bool, eq_bool, sorted_LI, seq_VL, eq_VL, ne_VL, pair_0, pair_1, len_VL, newL_f, onlyL_LI, mthO_index, max2_int, min2_int, Dw_get, Dw_set, Dw_app, Dw_len, isiW_d, isi_int_int, isi_int_bool, isi_int_list, isi_int_tuple, isi_int_str, isi_int_none, isi_int_LI, isi_int_VL, isi_bool_int, isi_bool_bool, isi_bool_list, isi_bool_tuple, isi_bool_str, isi_bool_none, isi_bool_LI, isi_bool_VL, isi_list_int, isi_list_bool, isi_list_list, isi_list_tuple, isi_list_str, isi_list_none, isi_list_LI, isi_list_VL, isi_tuple_int, isi_tuple_bool, isi_tuple_list, isi_tuple_tuple, isi_tuple_str, isi_tuple_none, isi_tuple_LI, isi_tuple_VL, isi_str_int, isi_str_bool, isi_str_list, isi_str_tuple, isi_str_str, isi_str_none, isi_str_LI, isi_str_VL, decide_true, decide_false, Bool.and_true, Bool.and_false, Bool.true_and, Bool.false_and, Bool.or_true, Bool.or_false, reduceCtorEq, decide_eq_false c, k0]
    rfl
theorem set_self {N : MH} {j : Nat} {o : MO} (h : N[j]? = some o) : N.set j o = N := by
  refine List.ext_getElem? fun i => ?_
  by_cases c : j = i
  · subst c
    rw [List.getElem?_set_self (List.getElem?_eq_some_iff.mp h).1, h]
  · rw [List.getElem?_set_ne c]
theorem all_set {N : MH} {j n : Nat} {o : MO} (h : N.all (objOk n) = true) (ho : objOk n o = true) : (N.set j o).all (objOk n) = true := List.all_eq_true.mpr fun x hx => by
  rcases List.mem_or_eq_of_mem_set hx with z | z
  · exact List.all_eq_true.mp h x z
  · rw [z]
    exact ho
theorem call1_set {cf : CF} {f j : Nat} {ws : List W} {N : MH} {x : PyData} {kvs : List (PyData × PyData)} (h : cf f ws N = some (.val (.d x) (N.set j (.dct true kvs)))) (ok : N.all (objOk N.length) = true) : callW cf 1 f ws N = some (.val (.d x) (N.set j (.dct true kvs))) := by
  have hl : (N.set j (.dct true kvs)).length = N.length := List.length_set
  unfold callW
  simp only [h]
  rw [← hl, List.take_length, hl, all_set ok rfl]
  rfl
/-- the setting of a count -/
structure Cn (r L : List Int) (w m : Int) : Prop where
  w1 : 1 ≤ w
  w2 : w ≤ 12
  l : L.length ≤ 12
  rl : (r.length : Int) + w = L.length + 1
  m0 : 0 ≤ m
  m9 : m ≤ 9
  b : ∀ q : Int, 0 ≤ q → q < L.length → 0 ≤ rowAt L q ∧ rowAt L q ≤ m
theorem ite_t {cf : CF} {t : IE} {a b : ISs} {σ : Sl} {M M1 : MH} {o : Option SO} (h : ev cf t σ M = some (.val (.d (.bool true)) M1)) (h2 : exSs cf a σ M1 = o) : exS cf (.ite t a b) σ M = o := by
  rw [exS, h]
  exact h2
theorem ite_f {cf : CF} {t : IE} {a b : ISs} {σ : Sl} {M M1 : MH} {o : Option SO} (h : ev cf t σ M = some (.val (.d (.bool false)) M1)) (h2 : exSs cf b σ M1 = o) : exS cf (.ite t a b) σ M = o := by
  rw [exS, h]
  exact h2
theorem ways_run {r L : List Int} {w m : Int} (hc : Cn r L w m) : ∀ (d : Nat) (p : Int) (t : List Bool) (k j : Nat) (N : MH) (es : List (Int × List Bool)), p + d = L.length → 0 ≤ p → gd w p t → N[j]? = some (.dct true (KV r L w m es)) → N.all (objOk N.length) = true → es.length + 2 ^ d ≤ 60000 →
    ∃ es', es'.length + 1 ≤ es.length + 2 ^ d ∧ run T (k + d + 2) 12 [.d (LI r), .d (LI L), .d (.int w), .d (.int m), .d (.int p), .d (TB t), .m j] N = some (.val (.d (.int (Wy r L w m d p t))) (N.set j (.dct true (KV r L w m es'))))
  | 0, p, t, k, j, N, es, hp, p0, ht, hN, hok, hes => by
    refine ⟨es, by simp, ?_⟩
    rw [set_self hN, run_eq (fi := i12) rfl rfl]
    have e : decide (p = (L.length : Int)) = true := decide_eq_true (by omega)
    simp only [i12, exSs, exS, ev.eq_1, ev.eq_2, ev.eq_3, ev.eq_4, ev.eq_5, ev.eq_6, ev.eq_7, ev.eq_8, ev.eq_9, ev.eq_10, ev.eq_11, ev.eq_12, ev.eq_13, ev.eq_14, ev.eq_15, ev.eq_16, ev.eq_17, ev.eq_18, ev.eq_19, ev.eq_21, ev.eq_22, ev.eq_23, ev.eq_24, ev.eq_25, ev.eq_26, ev.eq_27, ev.eq_28, ev.eq_29, evs, evO, evB, evC, evi, obO, obL, obI, obP, obS, obLS, obIS, Wl.ret, retB, dat, dats, views, view, startW, fin, put, putAll, setAll, wipeW, List.map_cons, List.map_nil, List.length_cons, List.length_nil, List.cons_append, List.nil_append, Nat.reduceAdd, Nat.reduceSub, Nat.reduceEqDiff, List.replicate_succ, List.replicate_zero, List.getElem?_cons_zero, List.getElem?_cons_succ, List.set_cons_zero, List.set_cons_succ, Option.map_some, len_LI, len_list, add_int, sub_int, mod_int, fdv_int, mul_int, pow_int, lt_int, le_int, gt_int, ge_int, eq_int, ne_int, eq_LI, ne_LI, inn_LI, nin_LI, sli_LI, sub_LI, seq_LI, cmpW_d, is_bool, isn_bool, Bool.not_true, Bool.not_false, beq_self_eq_true, ite_true, if_true, Bool.false_eq_true, if_false, reduceIte, Dw_frz, frz_0, frz_VL, ne_bool, eq_bool, sorted_LI, seq_VL, eq_VL, ne_VL, pair_0, pair_1, len_VL, newL_f, onlyL_LI, mthO_index, max2_int, min2_int, Dw_get, Dw_set, Dw_app, Dw_len, isiW_d, isi_int_int, isi_int_bool, isi_int_list, isi_int_tuple, isi_int_str, isi_int_none, isi_int_LI, isi_int_VL, isi_bool_int, isi_bool_bool, isi_bool_list, isi_bool_tuple, isi_bool_str, isi_bool_none, isi_bool_LI, isi_bool_VL, isi_list_int, isi_list_bool, isi_list_list, isi_list_tuple, isi_list_str, isi_list_none, isi_list_LI, isi_list_VL, isi_tuple_int, isi_tuple_bool, isi_tuple_list, isi_tuple_tuple, isi_tuple_str, isi_tuple_none, isi_tuple_LI, isi_tuple_VL, isi_str_int, isi_str_bool, isi_str_list, isi_str_tuple, isi_str_str, isi_str_none, isi_str_LI, isi_str_VL, decide_true, decide_false, Bool.and_true, Bool.and_false, Bool.true_and, Bool.false_and, Bool.or_true, Bool.or_false, reduceCtorEq, e]
    rfl
  | d + 1, p, t, k, j, N, es, hp, p0, ht, hN, hok, hes => by
    have ih := fun (b : Bool) (N : MH) (es : List (Int × List Bool)) => ways_run hc d (p + 1) (aft w t b) k j N es (by omega) (by omega) (gd_aft hc.w1 p0 ht)
    have h2 : 2 ^ (d + 1) = 2 ^ d + 2 ^ d := by rw [Nat.pow_succ]; omega
    have hpos : 0 < 2 ^ d := Nat.pow_pos (by decide)
    have hjl := (List.getElem?_eq_some_iff.mp hN).1
    have ep : decide (p = (L.length : Int)) = false := decide_eq_false (by omega)
    have hV : Vy r L w m p t = Wy r L w m (d + 1) p t := by
      unfold Vy
      rw [show L.length - p.toNat = d + 1 by omega]
    have kok : PyData.tuple [PyData.int p, TB t] = key p t := rfl
    have k2 : (2 : Nat) ≤ cap := by decide
    have k1 : (1 : Nat) ≤ cap := by decide
    have tl : t.length ≤ 900 := by
      have l12 := hc.l
      have w12 := hc.w2
      unfold gd at ht
      split at ht <;> omega
    have tw : w - 1 ≤ p → ((t ++ [true]).length : Int) = w ∧ ((t ++ [false]).length : Int) = w := fun h => by
      unfold gd at ht
      rw [if_neg (by omega)] at ht
      rw [List.length_append, List.length_append, List.length_singleton, List.length_singleton]
      omega
    have hh := fun (b : Bool) (M : MH) => holds_call (k := k + d + 1) (M := M) (r := r) (L := L) (w := w) (p := p) (t := t ++ [b]) hc.w1 (by have := hc.w2; omega) p0 (by omega) hc.rl (fun h => by cases b <;> simp only [tw h])
    have ca := fun (b : Bool) => cat_TB (t := t) (b := b) (by omega)
    have af := fun (b : Bool) (M : MH) => after_call (k := k + d + 1) (M := M) (w := w) (t := t) (b := b) hc.w1 tl
    have fuel : k + (d + 1) + 2 = (k + d + 2) + 1 := by omega
    rw [fuel]
    have gL := rowAt_get (xs := L) (p := p) p0 (by omega)
    have gb := hc.b p p0 (by omega)
    by_cases c : (p, t) ∈ es
    · refine ⟨es, by omega, ?_⟩
      have dl := dlook_KV (r := r) (L := L) (w := w) (m := m) p t es
      rw [if_pos c] at dl
      rw [set_self hN]
      refine run_ret (fi := i12) rfl rfl ?_
      simp only [i12, startW, List.map_cons, List.map_nil, List.length_cons, List.length_nil, Nat.reduceAdd, Nat.reduceSub, List.replicate_succ, List.replicate_zero, List.cons_append, List.nil_append]
      apply Eq.trans
      · apply exSs_cons
        apply ite_skip
        simp only [exSs, exS, ev.eq_1, ev.eq_2, ev.eq_3, ev.eq_4, ev.eq_5, ev.eq_6, ev.eq_7, ev.eq_8, ev.eq_9, ev.eq_10, ev.eq_11, ev.eq_12, ev.eq_13, ev.eq_14, ev.eq_15, ev.eq_16, ev.eq_17, ev.eq_18, ev.eq_19, ev.eq_21, ev.eq_22, ev.eq_23, ev.eq_24, ev.eq_25, ev.eq_26, ev.eq_27, ev.eq_28, ev.eq_29, evs, evO, evB, evC, evi, obO, obL, obI, obP, obS, obLS, obIS, Wl.ret, retB, dat, dats, views, view, startW, fin, put, putAll, setAll, wipeW, List.map_cons, List.map_nil, List.length_cons, List.length_nil, List.cons_append, List.nil_append, Nat.reduceAdd, Nat.reduceSub, Nat.reduceEqDiff, List.replicate_succ, List.replicate_zero, List.getElem?_cons_zero, List.getElem?_cons_succ, List.set_cons_zero, List.set_cons_succ, Option.map_some, len_LI, len_list, add_int, sub_int, mod_int, fdv_int, mul_int, pow_int, lt_int, le_int, gt_int, ge_int, eq_int, ne_int, eq_LI, ne_LI, inn_LI, nin_LI, sli_LI, sub_LI, seq_LI, cmpW_d, is_bool, isn_bool, Bool.not_true, Bool.not_false, beq_self_eq_true, ite_true, if_true, Bool.false_eq_true, if_false, reduceIte, Dw_frz, frz_0, frz_VL, ne_bool, eq_bool, sorted_LI, seq_VL, eq_VL, ne_VL, pair_0, pair_1, len_VL, newL_f, onlyL_LI, mthO_index, max2_int, min2_int, Dw_get, Dw_set, Dw_app, Dw_len, isiW_d, isi_int_int, isi_int_bool, isi_int_list, isi_int_tuple, isi_int_str, isi_int_none, isi_int_LI, isi_int_VL, isi_bool_int, isi_bool_bool, isi_bool_list, isi_bool_tuple, isi_bool_str, isi_bool_none, isi_bool_LI, isi_bool_VL, isi_list_int, isi_list_bool, isi_list_list, isi_list_tuple, isi_list_str, isi_list_none, isi_list_LI, isi_list_VL, isi_tuple_int, isi_tuple_bool, isi_tuple_list, isi_tuple_tuple, isi_tuple_str, isi_tuple_none, isi_tuple_LI, isi_tuple_VL, isi_str_int, isi_str_bool, isi_str_list, isi_str_tuple, isi_str_str, isi_str_none, isi_str_LI, isi_str_VL, decide_true, decide_false, Bool.and_true, Bool.and_false, Bool.true_and, Bool.false_and, Bool.or_true, Bool.or_false, reduceCtorEq, ep]
        rfl
      apply Eq.trans
      · apply exSs_cons
        apply ite_skip
        simp only [exSs, exS, ev.eq_1, ev.eq_2, ev.eq_3, ev.eq_4, ev.eq_5, ev.eq_6, ev.eq_7, ev.eq_8, ev.eq_9, ev.eq_10, ev.eq_11, ev.eq_12, ev.eq_13, ev.eq_14, ev.eq_15, ev.eq_16, ev.eq_17, ev.eq_18, ev.eq_19, ev.eq_21, ev.eq_22, ev.eq_23, ev.eq_24, ev.eq_25, ev.eq_26, ev.eq_27, ev.eq_28, ev.eq_29, evs, evO, evB, evC, evi, obO, obL, obI, obP, obS, obLS, obIS, Wl.ret, retB, dat, dats, views, view, startW, fin, put, putAll, setAll, wipeW, List.map_cons, List.map_nil, List.length_cons, List.length_nil, List.cons_append, List.nil_append, Nat.reduceAdd, Nat.reduceSub, Nat.reduceEqDiff, List.replicate_succ, List.replicate_zero, List.getElem?_cons_zero, List.getElem?_cons_succ, List.set_cons_zero, List.set_cons_succ, Option.map_some, len_LI, len_list, add_int, sub_int, mod_int, fdv_int, mul_int, pow_int, lt_int, le_int, gt_int, ge_int, eq_int, ne_int, eq_LI, ne_LI, inn_LI, nin_LI, sli_LI, sub_LI, seq_LI, cmpW_d, is_bool, isn_bool, Bool.not_true, Bool.not_false, beq_self_eq_true, ite_true, if_true, Bool.false_eq_true, if_false, reduceIte, Dw_frz, frz_0, frz_VL, ne_bool, eq_bool, sorted_LI, seq_VL, eq_VL, ne_VL, pair_0, pair_1, len_VL, newL_f, onlyL_LI, mthO_index, max2_int, min2_int, Dw_get, Dw_set, Dw_app, Dw_len, isiW_d, isi_int_int, isi_int_bool, isi_int_list, isi_int_tuple, isi_int_str, isi_int_none, isi_int_LI, isi_int_VL, isi_bool_int, isi_bool_bool, isi_bool_list, isi_bool_tuple, isi_bool_str, isi_bool_none, isi_bool_LI, isi_bool_VL, isi_list_int, isi_list_bool, isi_list_list, isi_list_tuple, isi_list_str, isi_list_none, isi_list_LI, isi_list_VL, isi_tuple_int, isi_tuple_bool, isi_tuple_list, isi_tuple_tuple, isi_tuple_str, isi_tuple_none, isi_tuple_LI, isi_tuple_VL, isi_str_int, isi_str_bool, isi_str_list, isi_str_tuple, isi_str_str, isi_str_none, isi_str_LI, isi_str_VL, decide_true, decide_false, Bool.and_true, Bool.and_false, Bool.true_and, Bool.false_and, Bool.or_true, Bool.or_false, reduceCtorEq, k2, kok, hN, keyOk_key, dl, Option.isSome_some]
        rfl
      simp only [exSs, exS, ev.eq_1, ev.eq_2, ev.eq_3, ev.eq_4, ev.eq_5, ev.eq_6, ev.eq_7, ev.eq_8, ev.eq_9, ev.eq_10, ev.eq_11, ev.eq_12, ev.eq_13, ev.eq_14, ev.eq_15, ev.eq_16, ev.eq_17, ev.eq_18, ev.eq_19, ev.eq_21, ev.eq_22, ev.eq_23, ev.eq_24, ev.eq_25, ev.eq_26, ev.eq_27, ev.eq_28, ev.eq_29, evs, evO, evB, evC, evi, obO, obL, obI, obP, obS, obLS, obIS, Wl.ret, retB, dat, dats, views, view, startW, fin, put, putAll, setAll, wipeW, List.map_cons, List.map_nil, List.length_cons, List.length_nil, List.cons_append, List.nil_append, Nat.reduceAdd, Nat.reduceSub, Nat.reduceEqDiff, List.replicate_succ, List.replicate_zero, List.getElem?_cons_zero, List.getElem?_cons_succ, List.set_cons_zero, List.set_cons_succ, Option.map_some, len_LI, len_list, add_int, sub_int, mod_int, fdv_int, mul_int, pow_int, lt_int, le_int, gt_int, ge_int, eq_int, ne_int, eq_LI, ne_LI, inn_LI, nin_LI, sli_LI, sub_LI, seq_LI, cmpW_d, is_bool, isn_bool, Bool.not_true, Bool.not_false, beq_self_eq_true, ite_true, if_true, Bool.false_eq_true, if_false, reduceIte, Dw_frz, frz_0, frz_VL, ne_bool, eq_bool, sorted_LI, seq_VL, eq_VL, ne_VL, pair_0, pair_1, len_VL, newL_f, onlyL_LI, mthO_index, max2_int, min2_int, Dw_get, Dw_set, Dw_app, Dw_len, isiW_d, isi_int_int, isi_int_bool, isi_int_list, isi_int_tuple, isi_int_str, isi_int_none, isi_int_LI, isi_int_VL, isi_bool_int, isi_bool_bool, isi_bool_list, isi_bool_tuple, isi_bool_str, isi_bool_none, isi_bool_LI, isi_bool_VL, isi_list_int, isi_list_bool, isi_list_list, isi_list_tuple, isi_list_str, isi_list_none, isi_list_LI, isi_list_VL, isi_tuple_int, isi_tuple_bool, isi_tuple_list, isi_tuple_tuple, isi_tuple_str, isi_tuple_none, isi_tuple_LI, isi_tuple_VL, isi_str_int, isi_str_bool, isi_str_list, isi_str_tuple, isi_str_str, isi_str_none, isi_str_LI, isi_str_VL, decide_true, decide_false, Bool.and_true, Bool.and_false, Bool.true_and, Bool.false_and, Bool.or_true, Bool.or_false, reduceCtorEq, k2, kok, hN, keyOk_key, dl, hV]
    · have dl := dlook_KV (r := r) (L := L) (w := w) (m := m) p t es
      rw [if_neg c] at dl
      -- the first way
      obtain ⟨es1, b1, q1⟩ : ∃ es1, es1.length + 1 ≤ es.length + 2 ^ d ∧ exS (run T (k + d + 2)) (.ite (.call 0 13 (.cons (.var 0) (.cons (.var 1) (.cons (.var 2) (.cons (.var 4) (.cons (.bin .add (.var 5) (.tup (.cons (.cst (.bool true)) .nil))) .nil)))))) (.cons (.aug .add 7 (.call 1 12 (.cons (.var 0) (.cons (.var 1) (.cons (.var 2) (.cons (.var 3) (.cons (.bin .add (.var 4) (.cst (.int 1))) (.cons (.call 0 14 (.cons (.var 5) (.cons (.cst (.bool true)) (.cons (.var 2) .nil)))) (.cons (.var 6) .nil))))))))) .nil) .nil)
          [some (.d (LI r)), some (.d (LI L)), some (.d (.int w)), some (.d (.int m)), some (.d (.int p)), some (.d (TB t)), some (.m j), some (.d (.int 0))] N = some (.nx [some (.d (LI r)), some (.d (LI L)), some (.d (.int w)), some (.d (.int m)), some (.d (.int p)), some (.d (TB t)), some (.m j), some (.d (.int (if hold r L w p (t ++ [true]) = true then Wy r L w m d (p + 1) (aft w t true) else 0)))] (N.set j (.dct true (KV r L w m es1)))) := by
        cases hb : hold r L w p (t ++ [true]) with
        | true =>
          obtain ⟨es1, b1, q1⟩ := ih true N es hN hok (by omega)
          have q2 := call1_set q1 hok
          refine ⟨es1, b1, ?_⟩
          refine ite_t (M1 := N) (by simp only [exSs, exS, ev.eq_1, ev.eq_2, ev.eq_3, ev.eq_4, ev.eq_5, ev.eq_6, ev.eq_7, ev.eq_8, ev.eq_9, ev.eq_10, ev.eq_11, ev.eq_12, ev.eq_13, ev.eq_14, ev.eq_15, ev.eq_16, ev.eq_17, ev.eq_18, ev.eq_19, ev.eq_21, ev.eq_22, ev.eq_23, ev.eq_24, ev.eq_25, ev.eq_26, ev.eq_27, ev.eq_28, ev.eq_29, evs, evO, evB, evC, evi, obO, obL, obI, obP, obS, obLS, obIS, Wl.ret, retB, dat, dats, views, view, startW, fin, put, putAll, setAll, wipeW, List.map_cons, List.map_nil, List.length_cons, List.length_nil, List.cons_append, List.nil_append, Nat.reduceAdd, Nat.reduceSub, Nat.reduceEqDiff, List.replicate_succ, List.replicate_zero, List.getElem?_cons_zero, List.getElem?_cons_succ, List.set_cons_zero, List.set_cons_succ, Option.map_some, len_LI, len_list, add_int, sub_int, mod_int, fdv_int, mul_int, pow_int, lt_int, le_int, gt_int, ge_int, eq_int, ne_int, eq_LI, ne_LI, inn_LI, nin_LI, sli_LI, sub_LI, seq_LI, cmpW_d, is_bool, isn_bool, Bool.not_true, Bool.not_false, beq_self_eq_true, ite_true, if_true, Bool.false_eq_true, if_false, reduceIte, Dw_frz, frz_0, frz_VL, ne_bool, eq_bool, sorted_LI, seq_VL, eq_VL, ne_VL, pair_0, pair_1, len_VL, newL_f, onlyL_LI, mthO_index, max2_int, min2_int, Dw_get, Dw_set, Dw_app, Dw_len, isiW_d, isi_int_int, isi_int_bool, isi_int_list, isi_int_tuple, isi_int_str, isi_int_none, isi_int_LI, isi_int_VL, isi_bool_int, isi_bool_bool, isi_bool_list, isi_bool_tuple, isi_bool_str, isi_bool_none, isi_bool_LI, isi_bool_VL, isi_list_int, isi_list_bool, isi_list_list, isi_list_tuple, isi_list_str, isi_list_none, isi_list_LI, isi_list_VL, isi_tuple_int, isi_tuple_bool, isi_tuple_list, isi_tuple_tuple, isi_tuple_str, isi_tuple_none, isi_tuple_LI, isi_tuple_VL, isi_str_int, isi_str_bool, isi_str_list, isi_str_tuple, isi_str_str, isi_str_none, isi_str_LI, isi_str_VL, decide_true, decide_false, Bool.and_true, Bool.and_false, Bool.true_and, Bool.false_and, Bool.or_true, Bool.or_false, reduceCtorEq, k1, ca, hh, hb]) ?_
          simp only [exSs, exS, ev.eq_1, ev.eq_2, ev.eq_3, ev.eq_4, ev.eq_5, ev.eq_6, ev.eq_7, ev.eq_8, ev.eq_9, ev.eq_10, ev.eq_11, ev.eq_12, ev.eq_13, ev.eq_14, ev.eq_15, ev.eq_16, ev.eq_17, ev.eq_18, ev.eq_19, ev.eq_21, ev.eq_22, ev.eq_23, ev.eq_24, ev.eq_25, ev.eq_26, ev.eq_27, ev.eq_28, ev.eq_29, evs, evO, evB, evC, evi, obO, obL, obI, obP, obS, obLS, obIS, Wl.ret, retB, dat, dats, views, view, startW, fin, put, putAll, setAll, wipeW, List.map_cons, List.map_nil, List.length_cons, List.length_nil, List.cons_append, List.nil_append, Nat.reduceAdd, Nat.reduceSub, Nat.reduceEqDiff, List.replicate_succ, List.replicate_zero, List.getElem?_cons_zero, List.getElem?_cons_succ, List.set_cons_zero, List.set_cons_succ, Option.map_some, len_LI, len_list, add_int, sub_int, mod_int, fdv_int, mul_int, pow_int, lt_int, le_int, gt_int, ge_int, eq_int, ne_int, eq_LI, ne_LI, inn_LI, nin_LI, sli_LI, sub_LI, seq_LI, cmpW_d, is_bool, isn_bool, Bool.not_true, Bool.not_false, beq_self_eq_true, ite_true, if_true, Bool.false_eq_true, if_false, reduceIte, Dw_frz, frz_0, frz_VL, ne_bool, eq_bool, sorted_LI, seq_VL, eq_VL, ne_VL, pair_0, pair_1, len_VL, newL_f, onlyL_LI, mthO_index, max2_int, min2_int, Dw_get, Dw_set, Dw_app, Dw_len, isiW_d, isi_int_int, isi_int_bool, isi_int_list, isi_int_tuple, isi_int_str, isi_int_none, isi_int_LI, isi_int_VL, isi_bool_int, isi_bool_bool, isi_bool_list, isi_bool_tuple, isi_bool_str, isi_bool_none, isi_bool_LI, isi_bool_VL, isi_list_int, isi_list_bool, isi_list_list, isi_list_tuple, isi_list_str, isi_list_none, isi_list_LI, isi_list_VL, isi_tuple_int, isi_tuple_bool, isi_tuple_list, isi_tuple_tuple, isi_tuple_str, isi_tuple_none, isi_tuple_LI, isi_tuple_VL, isi_str_int, isi_str_bool, isi_str_list, isi_str_tuple, isi_str_str, isi_str_none, isi_str_LI, isi_str_VL, decide_true, decide_false, Bool.and_true, Bool.and_false, Bool.true_and, Bool.false_and, Bool.or_true, Bool.or_false, reduceCtorEq, af, q2, if_pos, Int.zero_add]
        | false =>
          refine ⟨es, by omega, ?_⟩
          rw [set_self hN]
          refine ite_skip ?_
          simp only [exSs, exS, ev.eq_1, ev.eq_2, ev.eq_3, ev.eq_4, ev.eq_5, ev.eq_6, ev.eq_7, ev.eq_8, ev.eq_9, ev.eq_10, ev.eq_11, ev.eq_12, ev.eq_13, ev.eq_14, ev.eq_15, ev.eq_16, ev.eq_17, ev.eq_18, ev.eq_19, ev.eq_21, ev.eq_22, ev.eq_23, ev.eq_24, ev.eq_25, ev.eq_26, ev.eq_27, ev.eq_28, ev.eq_29, evs, evO, evB, evC, evi, obO, obL, obI, obP, obS, obLS, obIS, Wl.ret, retB, dat, dats, views, view, startW, fin, put, putAll, setAll, wipeW, List.map_cons, List.map_nil, List.length_cons, List.length_nil, List.cons_append, List.nil_append, Nat.reduceAdd, Nat.reduceSub, Nat.reduceEqDiff, List.replicate_succ, List.replicate_zero, List.getElem?_cons_zero, List.getElem?_cons_succ, List.set_cons_zero, List.set_cons_succ, Option.map_some, len_LI, len_list, add_int, sub_int, mod_int, fdv_int, mul_int, pow_int, lt_int, le_int, gt_int, ge_int, eq_int, ne_int, eq_LI, ne_LI, inn_LI, nin_LI, sli_LI, sub_LI, seq_LI, cmpW_d, is_bool, isn_bool, Bool.not_true, Bool.not_false, beq_self_eq_true, ite_true, if_true, Bool.false_eq_true, if_false, reduceIte, Dw_frz, frz_0, frz_VL, ne_bool, eq_bool, sorted_LI, seq_VL, eq_VL, ne_VL, pair_0, pair_1, len_VL, newL_f, onlyL_LI, mthO_index, max2_int, min2_int, Dw_get, Dw_set, Dw_app, Dw_len, isiW_d, isi_int_int, isi_int_bool, isi_int_list, isi_int_tuple, isi_int_str, isi_int_none, isi_int_LI, isi_int_VL, isi_bool_int, isi_bool_bool, isi_bool_list, isi_bool_tuple, isi_bool_str, isi_bool_none, isi_bool_LI, isi_bool_VL, isi_list_int, isi_list_bool, isi_list_list, isi_list_tuple, isi_list_str, isi_list_none, isi_list_LI, isi_list_VL, isi_tuple_int, isi_tuple_bool, isi_tuple_list, isi_tuple_tuple, isi_tuple_str, isi_tuple_none, isi_tuple_LI, isi_tuple_VL, isi_str_int, isi_str_bool, isi_str_list, isi_str_tuple, isi_str_str, isi_str_none, isi_str_LI, isi_str_VL, decide_true, decide_false, Bool.and_true, Bool.and_false, Bool.true_and, Bool.false_and, Bool.or_true, Bool.or_false, reduceCtorEq, k1, ca, hh, hb]
      obtain ⟨N1, hN1⟩ : ∃ N1, N.set j (.dct true (KV r L w m es1)) = N1 := ⟨_, rfl⟩
      have N1j : N1[j]? = some (.dct true (KV r L w m es1)) := by rw [← hN1]; exact List.getElem?_set_self hjl
      have N1l : N1.length = N.length := by rw [← hN1]; exact List.length_set
      have N1ok : N1.all (objOk N1.length) = true := by rw [N1l, ← hN1]; exact all_set hok rfl
      rw [hN1] at q1
      obtain ⟨a1, ha1⟩ : ∃ a1, (if hold r L w p (t ++ [true]) = true then Wy r L w m d (p + 1) (aft w t true) else 0) = a1 := ⟨_, rfl⟩
      rw [ha1] at q1
      -- the second way
      obtain ⟨es2, b2, q2⟩ : ∃ es2, es2.length + 1 ≤ es1.length + 2 ^ d ∧ exS (run T (k + d + 2)) (.ite (.bop true (.cons (.cmp .gt (.var 3) (.sub (.var 1) (.var 4))) (.cons (.call 0 13 (.cons (.var 0) (.cons (.var 1) (.cons (.var 2) (.cons (.var 4) (.cons (.bin .add (.var 5) (.tup (.cons (.cst (.bool false)) .nil))) .nil)))))) .nil))) (.cons (.aug .add 7 (.bin .mul (.bin .sub (.var 3) (.sub (.var 1) (.var 4))) (.call 1 12 (.cons (.var 0) (.cons (.var 1) (.cons (.var 2) (.cons (.var 3) (.cons (.bin .add (.var 4) (.cst (.int 1))) (.cons (.call 0 14 (.cons (.var 5) (.cons (.cst (.bool false)) (.cons (.var 2) .nil)))) (.cons (.var 6) .nil)))))))))) .nil) .nil)
          [some (.d (LI r)), some (.d (LI L)), some (.d (.int w)), some (.d (.int m)), some (.d (.int p)), some (.d (TB t)), some (.m j), some (.d (.int a1))] N1 = some (.nx [some (.d (LI r)), some (.d (LI L)), some (.d (.int w)), some (.d (.int m)), some (.d (.int p)), some (.d (TB t)), some (.m j), some (.d (.int (a1 + (if rowAt L p < m ∧ hold r L w p (t ++ [false]) = true then (m - rowAt L p) * Wy r L w m d (p + 1) (aft w t false) else 0))))] (N1.set j (.dct true (KV r L w m es2)))) := by
        by_cases hm : rowAt L p < m
        · cases hb : hold r L w p (t ++ [false]) with
          | true =>
            obtain ⟨es2, b2, q2⟩ := ih false N1 es1 N1j N1ok (by omega)
            have q3 := call1_set q2 N1ok
            have mb : (((-p64 < m - rowAt L p ∧ m - rowAt L p < p64) ∨ (-p64 < Wy r L w m d (p + 1) (aft w t false) ∧ Wy r L w m d (p + 1) (aft w t false) < p64))) = True := eq_true (.inl (by
              have m9 := hc.m9
              unfold p64
              omega))
            refine ⟨es2, b2, ?_⟩
            refine ite_t (M1 := N1) (by simp only [exSs, exS, ev.eq_1, ev.eq_2, ev.eq_3, ev.eq_4, ev.eq_5, ev.eq_6, ev.eq_7, ev.eq_8, ev.eq_9, ev.eq_10, ev.eq_11, ev.eq_12, ev.eq_13, ev.eq_14, ev.eq_15, ev.eq_16, ev.eq_17, ev.eq_18, ev.eq_19, ev.eq_21, ev.eq_22, ev.eq_23, ev.eq_24, ev.eq_25, ev.eq_26, ev.eq_27, ev.eq_28, ev.eq_29, evs, evO, evB, evC, evi, obO, obL, obI, obP, obS, obLS, obIS, Wl.ret, retB, dat, dats, views, view, startW, fin, put, putAll, setAll, wipeW, List.map_cons, List.map_nil, List.length_cons, List.length_nil, List.cons_append, List.nil_append, Nat.reduceAdd, Nat.reduceSub, Nat.reduceEqDiff, List.replicate_succ, List.replicate_zero, List.getElem?_cons_zero, List.getElem?_cons_succ, List.set_cons_zero, List.set_cons_succ, Option.map_some, len_LI, len_list, add_int, sub_int, mod_int, fdv_int, mul_int, pow_int, lt_int, le_int, gt_int, ge_int, eq_int, ne_int, eq_LI, ne_LI, inn_LI, nin_LI, sli_LI, sub_LI, seq_LI, cmpW_d, is_bool, isn_bool, Bool.not_true, Bool.not_false, beq_self_eq_true, ite_true, if_true, Bool.false_eq_true, if_false, reduceIte, Dw_frz, frz_0, frz_VL, ne_bool, eq_bool, sorted_LI, seq_VL, eq_VL, ne_VL, pair_0, pair_1, len_VL, newL_f, onlyL_LI, mthO_index, max2_int, min2_int, Dw_get, Dw_set, Dw_app, Dw_len, isiW_d, isi_int_int, isi_int_bool, isi_int_list, isi_int_tuple, isi_int_str, isi_int_none, isi_int_LI, isi_int_VL, isi_bool_int, isi_bool_bool, isi_bool_list, isi_bool_tuple, isi_bool_str, isi_bool_none, isi_bool_LI, isi_bool_VL, isi_list_int, isi_list_bool, isi_list_list, isi_list_tuple, isi_list_str, isi_list_none, isi_list_LI, isi_list_VL, isi_tuple_int, isi_tuple_bool, isi_tuple_list, isi_tuple_tuple, isi_tuple_str, isi_tuple_none, isi_tuple_LI, isi_tuple_VL, isi_str_int, isi_str_bool, isi_str_list, isi_str_tuple, isi_str_str, isi_str_none, isi_str_LI, isi_str_VL, decide_true, decide_false, Bool.and_true, Bool.and_false, Bool.true_and, Bool.false_and, Bool.or_true, Bool.or_false, reduceCtorEq, k1, ca, hh, hb, gL, decide_eq_true hm]) ?_
            simp only [exSs, exS, ev.eq_1, ev.eq_2, ev.eq_3, ev.eq_4, ev.eq_5, ev.eq_6, ev.eq_7, ev.eq_8, ev.eq_9, ev.eq_10, ev.eq_11, ev.eq_12, ev.eq_13, ev.eq_14, ev.eq_15, ev.eq_16, ev.eq_17, ev.eq_18, ev.eq_19, ev.eq_21, ev.eq_22, ev.eq_23, ev.eq_24, ev.eq_25, ev.eq_26, ev.eq_27, ev.eq_28, ev.eq_29, evs, evO, evB, evC, evi, obO, obL, obI, obP, obS, obLS, obIS, Wl.ret, retB, dat, dats, views, view, startW, fin, put, putAll, setAll, wipeW, List.map_cons, List.map_nil, List.length_cons, List.length_nil, List.cons_append, List.nil_append, Nat.reduceAdd, Nat.reduceSub, Nat.reduceEqDiff, List.replicate_succ, List.replicate_zero, List.getElem?_cons_zero, List.getElem?_cons_succ, List.set_cons_zero, List.set_cons_succ, Option.map_some, len_LI, len_list, add_int, sub_int, mod_int, fdv_int, mul_int, pow_int, lt_int, le_int, gt_int, ge_int, eq_int, ne_int, eq_LI, ne_LI, inn_LI, nin_LI, sli_LI, sub_LI, seq_LI, cmpW_d, is_bool, isn_bool, Bool.not_true, Bool.not_false, beq_self_eq_true, ite_true, if_true, Bool.false_eq_true, if_false, reduceIte, Dw_frz, frz_0, frz_VL, ne_bool, eq_bool, sorted_LI, seq_VL, eq_VL, ne_VL, pair_0, pair_1, len_VL, newL_f, onlyL_LI, mthO_index, max2_int, min2_int, Dw_get, Dw_set, Dw_app, Dw_len, isiW_d, isi_int_int, isi_int_bool, isi_int_list, isi_int_tuple, isi_int_str, isi_int_none, isi_int_LI, isi_int_VL, isi_bool_int, isi_bool_bool, isi_bool_list, isi_bool_tuple, isi_bool_str, isi_bool_none, isi_bool_LI, isi_bool_VL, isi_list_int, isi_list_bool, isi_list_list, isi_list_tuple, isi_list_str, isi_list_none, isi_list_LI, isi_list_VL, isi_tuple_int, isi_tuple_bool, isi_tuple_list, isi_tuple_tuple, isi_tuple_str, isi_tuple_none, isi_tuple_LI, isi_tuple_VL, isi_str_int, isi_str_bool, isi_str_list, isi_str_tuple, isi_str_str, isi_str_none, isi_str_LI, isi_str_VL, decide_true, decide_false, Bool.and_true, Bool.and_false, Bool.true_and, Bool.false_and, Bool.or_true, Bool.or_false, reduceCtorEq, af, q3, gL, mb, hm, and_self]
          | false =>
            refine ⟨es1, by omega, ?_⟩
            rw [set_self N1j]
            have e0 : (if rowAt L p < m ∧ false = true then (m - rowAt L p) * Wy r L w m d (p + 1) (aft w t false) else 0) = 0 := if_neg (by simp)
            rw [e0, Int.add_zero]
            refine ite_skip ?_
            simp only [exSs, exS, ev.eq_1, ev.eq_2, ev.eq_3, ev.eq_4, ev.eq_5, ev.eq_6, ev.eq_7, ev.eq_8, ev.eq_9, ev.eq_10, ev.eq_11, ev.eq_12, ev.eq_13, ev.eq_14, ev.eq_15, ev.eq_16, ev.eq_17, ev.eq_18, ev.eq_19, ev.eq_21, ev.eq_22, ev.eq_23, ev.eq_24, ev.eq_25, ev.eq_26, ev.eq_27, ev.eq_28, ev.eq_29, evs, evO, evB, evC, evi, obO, obL, obI, obP, obS, obLS, obIS, Wl.ret, retB, dat, dats, views, view, startW, fin, put, putAll, setAll, wipeW, List.map_cons, List.map_nil, List.length_cons, List.length_nil, List.cons_append, List.nil_append, Nat.reduceAdd, Nat.reduceSub, Nat.reduceEqDiff, List.replicate_succ, List.replicate_zero, List.getElem?_cons_zero, List.getElem?_cons_succ, List.set_cons_zero, List.set_cons_succ, Option.map_some, len_LI, len_list, add_int, sub_int, mod_int, fdv_int, mul_int, pow_int, lt_int, le_int, gt_int, ge_int, eq_int, ne_int, eq_LI, ne_LI, inn_LI, nin_LI, sli_LI, sub_LI, seq_LI, cmpW_d, is_bool, isn_bool, Bool.not_true, Bool.not_false, beq_self_eq_true, ite_true, if_true, Bool.false_eq_true, if_false, reduceIte, Dw_frz, frz_0, frz_VL, ne_bool, eq_bool, sorted_LI, seq_VL, eq_VL, ne_VL, pair_0, pair_1, len_VL, newL_f, onlyL_LI, mthO_index, max2_int, min2_int, Dw_get, Dw_set, Dw_app, Dw_len, isiW_d, isi_int_int, isi_int_bool, isi_int_list, isi_int_tuple, isi_int_str, isi_int_none, isi_int_LI, isi_int_VL, isi_bool_int, isi_bool_bool, isi_bool_list, isi_bool_tuple, isi_bool_str, isi_bool_none, isi_bool_LI, isi_bool_VL, isi_list_int, isi_list_bool, isi_list_list, isi_list_tuple, isi_list_str, isi_list_none, isi_list_LI, isi_list_VL, isi_tuple_int, isi_tuple_bool, isi_tuple_list, isi_tuple_tuple, isi_tuple_str, isi_tuple_none, isi_tuple_LI, isi_tuple_VL, isi_str_int, isi_str_bool, isi_str_list, isi_str_tuple, isi_str_str, isi_str_none, isi_str_LI, isi_str_VL, decide_true, decide_false, Bool.and_true, Bool.and_false, Bool.true_and, Bool.false_and, Bool.or_true, Bool.or_false, reduceCtorEq, k1, ca, hh, hb, gL, decide_eq_true hm]
        · refine ⟨es1, by omega, ?_⟩
          rw [set_self N1j]
          have e0 : (if rowAt L p < m ∧ hold r L w p (t ++ [false]) = true then (m - rowAt L p) * Wy r L w m d (p + 1) (aft w t false) else 0) = 0 := if_neg fun z => hm z.1
          rw [e0, Int.add_zero]
          refine ite_skip ?_
          simp only [exSs, exS, ev.eq_1, ev.eq_2, ev.eq_3, ev.eq_4, ev.eq_5, ev.eq_6, ev.eq_7, ev.eq_8, ev.eq_9, ev.eq_10, ev.eq_11, ev.eq_12, ev.eq_13, ev.eq_14, ev.eq_15, ev.eq_16, ev.eq_17, ev.eq_18, ev.eq_19, ev.eq_21, ev.eq_22, ev.eq_23, ev.eq_24, ev.eq_25, ev.eq_26, ev.eq_27, ev.eq_28, ev.eq_29, evs, evO, evB, evC, evi, obO, obL, obI, obP, obS, obLS, obIS, Wl.ret, retB, dat, dats, views, view, startW, fin, put, putAll, setAll, wipeW, List.map_cons, List.map_nil, List.length_cons, List.length_nil, List.cons_append, List.nil_append, Nat.reduceAdd, Nat.reduceSub, Nat.reduceEqDiff, List.replicate_succ, List.replicate_zero, List.getElem?_cons_zero, List.getElem?_cons_succ, List.set_cons_zero, List.set_cons_succ, Option.map_some, len_LI, len_list, add_int, sub_int, mod_int, fdv_int, mul_int, pow_int, lt_int, le_int, gt_int, ge_int, eq_int, ne_int, eq_LI, ne_LI, inn_LI, nin_LI, sli_LI, sub_LI, seq_LI, cmpW_d, is_bool, isn_bool, Bool.not_true, Bool.not_false, beq_self_eq_true, ite_true, if_true, Bool.false_eq_true, if_false, reduceIte, Dw_frz, frz_0, frz_VL, ne_bool, eq_bool, sorted_LI, seq_VL, eq_VL, ne_VL, pair_0, pair_1, len_VL, newL_f, onlyL_LI, mthO_index, max2_int, min2_int, Dw_get, Dw_set, Dw_app, Dw_len, isiW_d, isi_int_int, isi_int_bool, isi_int_list, isi_int_tuple, isi_int_str, isi_int_none, isi_int_LI, isi_int_VL, isi_bool_int, isi_bool_bool, isi_bool_list, isi_bool_tuple, isi_bool_str, isi_bool_none, isi_bool_LI, isi_bool_VL, isi_list_int, isi_list_bool, isi_list_list, isi_list_tuple, isi_list_str, isi_list_none, isi_list_LI, isi_list_VL, isi_tuple_int, isi_tuple_bool, isi_tuple_list, isi_tuple_tuple, isi_tuple_str, isi_tuple_none, isi_tuple_LI, isi_tuple_VL, isi_str_int, isi_str_bool, isi_str_list, isi_str_tuple, isi_str_str, isi_str_none, isi_str_LI, isi_str_VL, decide_true, decide_false, Bool.and_true, Bool.and_false, Bool.true_and, Bool.false_and, Bool.or_true, Bool.or_false, reduceCtorEq, gL, decide_eq_false hm]
      have hW : a1 + (if rowAt L p < m ∧ hold r L w p (t ++ [false]) = true then (m - rowAt L p) * Wy r L w m d (p + 1) (aft w t false) else 0) = Wy r L w m (d + 1) p t := by rw [← ha1, Wy]
      rw [hW] at q2
      have N2 : N1.set j (.dct true (KV r L w m es2)) = N.set j (.dct true (KV r L w m es2)) := by rw [← hN1, List.set_set]
      rw [N2] at q2
      have N2j : (N.set j (.dct true (KV r L w m es2)))[j]? = some (.dct true (KV r L w m es2)) := List.getElem?_set_self hjl
      have dp := dput_KV (r := r) (L := L) (w := w) (m := m) p t es2
      rw [hV] at dp
      have il := insE_len es2 p t
      have kc : (keyOk (key p t) = true ∧ (KV r L w m es2).length < cap) = True := eq_true ⟨keyOk_key p t, by rw [KV_len]; exact Nat.lt_of_lt_of_le (show es2.length < 60000 by omega) (by decide)⟩
      have N3j : (N.set j (.dct true (KV r L w m (insE es2 p t))))[j]? = some (.dct true (KV r L w m (insE es2 p t))) := List.getElem?_set_self hjl
      have dl3 := dlook_KV (r := r) (L := L) (w := w) (m := m) p t (insE es2 p t)
      rw [if_pos (by unfold insE; split <;> simp_all), hV] at dl3
      refine ⟨insE es2 p t, by omega, ?_⟩
      refine run_ret (fi := i12) rfl rfl ?_
      simp only [i12, startW, List.map_cons, List.map_nil, List.length_cons, List.length_nil, Nat.reduceAdd, Nat.reduceSub, List.replicate_succ, List.replicate_zero, List.cons_append, List.nil_append]
      apply Eq.trans
      · apply exSs_cons
        apply ite_skip
        simp only [exSs, exS, ev.eq_1, ev.eq_2, ev.eq_3, ev.eq_4, ev.eq_5, ev.eq_6, ev.eq_7, ev.eq_8, ev.eq_9, ev.eq_10, ev.eq_11, ev.eq_12, ev.eq_13, ev.eq_14, ev.eq_15, ev.eq_16, ev.eq_17, ev.eq_18, ev.eq_19, ev.eq_21, ev.eq_22, ev.eq_23, ev.eq_24, ev.eq_25, ev.eq_26, ev.eq_27, ev.eq_28, ev.eq_29, evs, evO, evB, evC, evi, obO, obL, obI, obP, obS, obLS, obIS, Wl.ret, retB, dat, dats, views, view, startW, fin, put, putAll, setAll, wipeW, List.map_cons, List.map_nil, List.length_cons, List.length_nil, List.cons_append, List.nil_append, Nat.reduceAdd, Nat.reduceSub, Nat.reduceEqDiff, List.replicate_succ, List.replicate_zero, List.getElem?_cons_zero, List.getElem?_cons_succ, List.set_cons_zero, List.set_cons_succ, Option.map_some, len_LI, len_list, add_int, sub_int, mod_int, fdv_int, mul_int, pow_int, lt_int, le_int, gt_int, ge_int, eq_int, ne_int, eq_LI, ne_LI, inn_LI, nin_LI, sli_LI, sub_LI, seq_LI, cmpW_d, is_bool, isn_bool, Bool.not_true, Bool.not_false, beq_self_eq_true, ite_true, if_true, Bool.false_eq_true, if_false, reduceIte, Dw_frz, frz_0, frz_VL, ne_bool, eq_bool, sorted_LI, seq_VL, eq_VL, ne_VL, pair_0, pair_1, len_VL, newL_f, onlyL_LI, mthO_index, max2_int, min2_int, Dw_get, Dw_set, Dw_app, Dw_len, isiW_d, isi_int_int, isi_int_bool, isi_int_list, isi_int_tuple, isi_int_str, isi_int_none, isi_int_LI, isi_int_VL, isi_bool_int, isi_bool_bool, isi_bool_list, isi_bool_tuple, isi_bool_str, isi_bool_none, isi_bool_LI, isi_bool_VL, isi_list_int, isi_list_bool, isi_list_list, isi_list_tuple, isi_list_str, isi_list_none, isi_list_LI, isi_list_VL, isi_tuple_int, isi_tuple_bool, isi_tuple_list, isi_tuple_tuple, isi_tuple_str, isi_tuple_none, isi_tuple_LI, isi_tuple_VL, isi_str_int, isi_str_bool, isi_str_list, isi_str_tuple, isi_str_str, isi_str_none, isi_str_LI, isi_str_VL, decide_true, decide_false, Bool.and_true, Bool.and_false, Bool.true_and, Bool.false_and, Bool.or_true, Bool.or_false, reduceCtorEq, ep]
        rfl
      apply Eq.trans
      · apply exSs_cons (σ1 := [some (.d (LI r)), some (.d (LI L)), some (.d (.int w)), some (.d (.int m)), some (.d (.int p)), some (.d (TB t)), some (.m j), some (.d (.int (Wy r L w m (d + 1) p t)))]) (M1 := N.set j (.dct true (KV r L w m (insE es2 p t))))
        refine ite_t (M1 := N) (by simp only [exSs, exS, ev.eq_1, ev.eq_2, ev.eq_3, ev.eq_4, ev.eq_5, ev.eq_6, ev.eq_7, ev.eq_8, ev.eq_9, ev.eq_10, ev.eq_11, ev.eq_12, ev.eq_13, ev.eq_14, ev.eq_15, ev.eq_16, ev.eq_17, ev.eq_18, ev.eq_19, ev.eq_21, ev.eq_22, ev.eq_23, ev.eq_24, ev.eq_25, ev.eq_26, ev.eq_27, ev.eq_28, ev.eq_29, evs, evO, evB, evC, evi, obO, obL, obI, obP, obS, obLS, obIS, Wl.ret, retB, dat, dats, views, view, startW, fin, put, putAll, setAll, wipeW, List.map_cons, List.map_nil, List.length_cons, List.length_nil, List.cons_append, List.nil_append, Nat.reduceAdd, Nat.reduceSub, Nat.reduceEqDiff, List.replicate_succ, List.replicate_zero, List.getElem?_cons_zero, List.getElem?_cons_succ, List.set_cons_zero, List.set_cons_succ, Option.map_some, len_LI, len_list, add_int, sub_int, mod_int, fdv_int, mul_int, pow_int, lt_int, le_int, gt_int, ge_int, eq_int, ne_int, eq_LI, ne_LI, inn_LI, nin_LI, sli_LI, sub_LI, seq_LI, cmpW_d, is_bool, isn_bool, Bool.not_true, Bool.not_false, beq_self_eq_true, ite_true, if_true, Bool.false_eq_true, if_false, reduceIte, Dw_frz, frz_0, frz_VL, ne_bool, eq_bool, sorted_LI, seq_VL, eq_VL, ne_VL, pair_0, pair_1, len_VL, newL_f, onlyL_LI, mthO_index, max2_int, min2_int, Dw_get, Dw_set, Dw_app, Dw_len, isiW_d, isi_int_int, isi_int_bool, isi_int_list, isi_int_tuple, isi_int_str, isi_int_none, isi_int_LI, isi_int_VL, isi_bool_int, isi_bool_bool, isi_bool_list, isi_bool_tuple, isi_bool_str, isi_bool_none, isi_bool_LI, isi_bool_VL, isi_list_int, isi_list_bool, isi_list_list, isi_list_tuple, isi_list_str, isi_list_none, isi_list_LI, isi_list_VL, isi_tuple_int, isi_tuple_bool, isi_tuple_list, isi_tuple_tuple, isi_tuple_str, isi_tuple_none, isi_tuple_LI, isi_tuple_VL, isi_str_int, isi_str_bool, isi_str_list, isi_str_tuple, isi_str_str, isi_str_none, isi_str_LI, isi_str_VL, decide_true, decide_false, Bool.and_true, Bool.and_false, Bool.true_and, Bool.false_and, Bool.or_true, Bool.or_false, reduceCtorEq, k2, kok, hN, keyOk_key, dl, Option.isSome_none]) ?_
        apply Eq.trans
        · apply exSs_cons
          (simp only [exSs, exS, ev.eq_1, ev.eq_2, ev.eq_3, ev.eq_4, ev.eq_5, ev.eq_6, ev.eq_7, ev.eq_8, ev.eq_9, ev.eq_10, ev.eq_11, ev.eq_12, ev.eq_13, ev.eq_14, ev.eq_15, ev.eq_16, ev.eq_17, ev.eq_18, ev.eq_19, ev.eq_21, ev.eq_22, ev.eq_23, ev.eq_24, ev.eq_25, ev.eq_26, ev.eq_27, ev.eq_28, ev.eq_29, evs, evO, evB, evC, evi, obO, obL, obI, obP, obS, obLS, obIS, Wl.ret, retB, dat, dats, views, view, startW, fin, put, putAll, setAll, wipeW, List.map_cons, List.map_nil, List.length_cons, List.length_nil, List.cons_append, List.nil_append, Nat.reduceAdd, Nat.reduceSub, Nat.reduceEqDiff, List.replicate_succ, List.replicate_zero, List.getElem?_cons_zero, List.getElem?_cons_succ, List.set_cons_zero, List.set_cons_succ, Option.map_some, len_LI, len_list, add_int, sub_int, mod_int, fdv_int, mul_int, pow_int, lt_int, le_int, gt_int, ge_int, eq_int, ne_int, eq_LI, ne_LI, inn_LI, nin_LI, sli_LI, sub_LI, seq_LI, cmpW_d, is_bool, isn_bool, Bool.not_true, Bool.not_false, beq_self_eq_true, ite_true, if_true, Bool.false_eq_true, if_false, reduceIte, Dw_frz, frz_0, frz_VL, ne_bool, eq_bool, sorted_LI, seq_VL, eq_VL, ne_VL, pair_0, pair_1, len_VL, newL_f, onlyL_LI, mthO_index, max2_int, min2_int, Dw_get, Dw_set, Dw_app, Dw_len, isiW_d, isi_int_int, isi_int_bool, isi_int_list, isi_int_tuple, isi_int_str, isi_int_none, isi_int_LI, isi_int_VL, isi_bool_int, isi_bool_bool, isi_bool_list, isi_bool_tuple, isi_bool_str, isi_bool_none, isi_bool_LI, isi_bool_VL, isi_list_int, isi_list_bool, isi_list_list, isi_list_tuple, isi_list_str, isi_list_none, isi_list_LI, isi_list_VL, isi_tuple_int, isi_tuple_bool, isi_tuple_list, isi_tuple_tuple, isi_tuple_str, isi_tuple_none, isi_tuple_LI, isi_tuple_VL, isi_str_int, isi_str_bool, isi_str_list, isi_str_tuple, isi_str_str, isi_str_none, isi_str_LI, isi_str_VL, decide_true, decide_false, Bool.and_true, Bool.and_false, Bool.true_and, Bool.false_and, Bool.or_true, Bool.or_false, reduceCtorEq]) <;> rfl
        apply Eq.trans
        · apply exSs_cons
          exact q1
        apply Eq.trans
        · apply exSs_cons
          exact q2
        simp only [exSs, exS, ev.eq_1, ev.eq_2, ev.eq_3, ev.eq_4, ev.eq_5, ev.eq_6, ev.eq_7, ev.eq_8, ev.eq_9, ev.eq_10, ev.eq_11, ev.eq_12, ev.eq_13, ev.eq_14, ev.eq_15, ev.eq_16, ev.eq_17, ev.eq_18, ev.eq_19, ev.eq_21, ev.eq_22, ev.eq_23, ev.eq_24, ev.eq_25, ev.eq_26, ev.eq_27, ev.eq_28, ev.eq_29, evs, evO, evB, evC, evi, obO, obL, obI, obP, obS, obLS, obIS, Wl.ret, retB, dat, dats, views, view, startW, fin, put, putAll, setAll, wipeW, List.map_cons, List.map_nil, List.length_cons, List.length_nil, List.cons_append, List.nil_append, Nat.reduceAdd, Nat.reduceSub, Nat.reduceEqDiff, List.replicate_succ, List.replicate_zero, List.getElem?_cons_zero, List.getElem?_cons_succ, List.set_cons_zero, List.set_cons_succ, Option.map_some, len_LI, len_list, add_int, sub_int, mod_int, fdv_int, mul_int, pow_int, lt_int, le_int, gt_int, ge_int, eq_int, ne_int, eq_LI, ne_LI, inn_LI, nin_LI, sli_LI, sub_LI, seq_LI, cmpW_d, is_bool, isn_bool, Bool.not_true, Bool.not_false, beq_self_eq_true, ite_true, if_true, Bool.false_eq_true, if_false, reduceIte, Dw_frz, frz_0, frz_VL, ne_bool, eq_bool, sorted_LI, seq_VL, eq_VL, ne_VL, pair_0, pair_1, len_VL, newL_f, onlyL_LI, mthO_index, max2_int, min2_int, Dw_get, Dw_set, Dw_app, Dw_len, isiW_d, isi_int_int, isi_int_bool, isi_int_list, isi_int_tuple, isi_int_str, isi_int_none, isi_int_LI, isi_int_VL, isi_bool_int, isi_bool_bool, isi_bool_list, isi_bool_tuple, isi_bool_str, isi_bool_none, isi_bool_LI, isi_bool_VL, isi_list_int, isi_list_bool, isi_list_list, isi_list_tuple, isi_list_str, isi_list_none, isi_list_LI, isi_list_VL, isi_tuple_int, isi_tuple_bool, isi_tuple_list, isi_tuple_tuple, isi_tuple_str, isi_tuple_none, isi_tuple_LI, isi_tuple_VL, isi_str_int, isi_str_bool, isi_str_list, isi_str_tuple, isi_str_str, isi_str_none, isi_str_LI, isi_str_VL, decide_true, decide_false, Bool.and_true, Bool.and_false, Bool.true_and, Bool.false_and, Bool.or_true, Bool.or_false, reduceCtorEq, k2, kok, N2j, kc, dp, List.set_set]
      simp only [exSs, exS, ev.eq_1, ev.eq_2, ev.eq_3, ev.eq_4, ev.eq_5, ev.eq_6, ev.eq_7, ev.eq_8, ev.eq_9, ev.eq_10, ev.eq_11, ev.eq_12, ev.eq_13, ev.eq_14, ev.eq_15, ev.eq_16, ev.eq_17, ev.eq_18, ev.eq_19, ev.eq_21, ev.eq_22, ev.eq_23, ev.eq_24, ev.eq_25, ev.eq_26, ev.eq_27, ev.eq_28, ev.eq_29, evs, evO, evB, evC, evi, obO, obL, obI, obP, obS, obLS, obIS, Wl.ret, retB, dat, dats, views, view, startW, fin, put, putAll, setAll, wipeW, List.map_cons, List.map_nil, List.length_cons, List.length_nil, List.cons_append, List.nil_append, Nat.reduceAdd, Nat.reduceSub, Nat.reduceEqDiff, List.replicate_succ, List.replicate_zero, List.getElem?_cons_zero, List.getElem?_cons_succ, List.set_cons_zero, List.set_cons_succ, Option.map_some, len_LI, len_list, add_int, sub_int, mod_int, fdv_int, mul_int, pow_int, lt_int, le_int, gt_int, ge_int, eq_int, ne_int, eq_LI, ne_LI, inn_LI, nin_LI, sli_LI, sub_LI, seq_LI, cmpW_d, is_bool, isn_bool, Bool.not_true, Bool.not_false, beq_self_eq_true, ite_true, if_true, Bool.false_eq_true, if_false, reduceIte, Dw_frz, frz_0, frz_VL, ne_bool, eq_bool, sorted_LI, seq_VL, eq_VL, ne_VL, pair_0, pair_1, len_VL, newL_f, onlyL_LI, mthO_index, max2_int, min2_int, Dw_get, Dw_set, Dw_app, Dw_len, isiW_d, isi_int_int, isi_int_bool, isi_int_list, isi_int_tuple, isi_int_str, isi_int_none, isi_int_LI, isi_int_VL, isi_bool_int, isi_bool_bool, isi_bool_list, isi_bool_tuple, isi_bool_str, isi_bool_none, isi_bool_LI, isi_bool_VL, isi_list_int, isi_list_bool, isi_list_list, isi_list_tuple, isi_list_str, isi_list_none, isi_list_LI, isi_list_VL, isi_tuple_int, isi_tuple_bool, isi_tuple_list, isi_tuple_tuple, isi_tuple_str, isi_tuple_none, isi_tuple_LI, isi_tuple_VL, isi_str_int, isi_str_bool, isi_str_list, isi_str_tuple, isi_str_str, isi_str_none, isi_str_LI, isi_str_VL, decide_true, decide_false, Bool.and_true, Bool.and_false, Bool.true_and, Bool.false_and, Bool.or_true, Bool.or_false, reduceCtorEq, k2, kok, N3j, keyOk_key, dl3]
theorem check_most_call {k : Nat} {M : MH} {m : Int} (h : 0 ≤ m ∧ m ≤ 9) : callW (run T (k + 2)) 0 5 [.d (.int m)] M = some (.val (.d .none) M) := by
  refine call0 (M' := []) ?_ rfl
  rw [run_eq (fi := i5) rfl rfl]
  simp only [i5, exSs, exS, ev.eq_1, ev.eq_2, ev.eq_3, ev.eq_4, ev.eq_5, ev.eq_6, ev.eq_7, ev.eq_8, ev.eq_9, ev.eq_10, ev.eq_11, ev.eq_12, ev.eq_13, ev.eq_14, ev.eq_15, ev.eq_16, ev.eq_17, ev.eq_18, ev.eq_19, ev.eq_21, ev.eq_22, ev.eq_23, ev.eq_24, ev.eq_25, ev.eq_26, ev.eq_27, ev.eq_28, ev.eq_29, evs, evO, evB, evC, evi, obO, obL, obI, obP, obS, obLS, obIS, Wl.ret, retB, dat, dats, views, view, startW, fin, put, putAll, setAll, wipeW, List.map_cons, List.map_nil, List.length_cons, List.length_nil, List.cons_append, List.nil_append, Nat.reduceAdd, Nat.reduceSub, Nat.reduceEqDiff, List.replicate_succ, List.replicate_zero, List.getElem?_cons_zero, List.getElem?_cons_succ, List.set_cons_zero, List.set_cons_succ, Option.map_some, len_LI, len_list, add_int, sub_int, mod_int, fdv_int, mul_int, pow_int, lt_int, le_int, gt_int, ge_int, eq_int, ne_int, eq_LI, ne_LI, inn_LI, nin_LI, sli_LI, sub_LI, seq_LI, cmpW_d, is_bool, isn_bool, Bool.not_true, Bool.not_false, beq_self_eq_true, ite_true, if_true, Bool.false_eq_true, if_false, reduceIte, Dw_frz, frz_0, frz_VL, ne_bool, eq_bool, sorted_LI, seq_VL, eq_VL, ne_VL, pair_0, pair_1, len_VL, newL_f, onlyL_LI, mthO_index, max2_int, min2_int, Dw_get, Dw_set, Dw_app, Dw_len, isiW_d, isi_int_int, isi_int_bool, isi_int_list, isi_int_tuple, isi_int_str, isi_int_none, isi_int_LI, isi_int_VL, isi_bool_int, isi_bool_bool, isi_bool_list, isi_bool_tuple, isi_bool_str, isi_bool_none, isi_bool_LI, isi_bool_VL, isi_list_int, isi_list_bool, isi_list_list, isi_list_tuple, isi_list_str, isi_list_none, isi_list_LI, isi_list_VL, isi_tuple_int, isi_tuple_bool, isi_tuple_list, isi_tuple_tuple, isi_tuple_str, isi_tuple_none, isi_tuple_LI, isi_tuple_VL, isi_str_int, isi_str_bool, isi_str_list, isi_str_tuple, isi_str_str, isi_str_none, isi_str_LI, isi_str_VL, decide_true, decide_false, Bool.and_true, Bool.and_false, Bool.true_and, Bool.false_and, Bool.or_true, Bool.or_false, reduceCtorEq, is_int_call, decide_eq_true h]
theorem cn_of {r : List Int} {w m : Int} (h : okRow r) (h1 : 1 ≤ w) (h2 : w + r.length ≤ 13) (m0 : 0 ≤ m ∧ m ≤ 9) (hb : ∀ v ∈ upL r w, v ≤ m) : Cn r (upL r w) w m := by
  have hl := List.length_pos_iff.mpr h.1
  have ul := upL_len r w
  have ou := (okRow_up h h1 h2 (b := 9) fun v hv => (h.2.2 v hv).2).1
  refine ⟨h1, by omega, by omega, by omega, m0.1, m0.2, fun q q0 q1 => ?_⟩
  have e := rowAt_get (xs := upL r w) (p := q) q0 q1
  rw [Wl.atI_nat q0] at e
  have hm := List.mem_of_getElem? e
  exact ⟨(ou.2.2 _ hm).1, hb _ hm⟩
theorem cn_bound {r L : List Int} {w m : Int} (hc : Cn r L w m) : ∀ v ∈ L, 0 ≤ v ∧ v ≤ m := fun v hv => by
  obtain ⟨i, hi⟩ := List.getElem?_of_mem hv
  have hil := (List.getElem?_eq_some_iff.mp hi).1
  have e := rowAt_get (xs := L) (p := i) (by omega) (by omega)
  rw [Wl.atI_nat (by omega), Int.toNat_natCast, hi] at e
  rw [Option.some.inj e]
  exact hc.b i (by omega) (by omega)
theorem pow12 {n : Nat} (h : n ≤ 12) : 2 ^ n ≤ 4096 := Nat.le_trans (Nat.pow_le_pow_right (by decide) h) (by decide)
theorem gd_nil {w : Int} (h1 : 1 ≤ w) : gd w 0 [] := by
  unfold gd
  simp
  omega
/-- the ways from the first place -/
theorem ways0_call {r L : List Int} {w m : Int} (hc : Cn r L w m) {k j : Nat} {N : MH} (hN : N[j]? = some (.dct true [])) (hok : N.all (objOk N.length) = true) :
    ∃ kvs, callW (run T (k + 14)) 1 12 [.d (LI r), .d (LI L), .d (.int w), .d (.int m), .d (.int 0), .d (.tuple []), .m j] N = some (.val (.d (.int (Wy r L w m L.length 0 []))) (N.set j (.dct true kvs))) := by
  have l12 := hc.l
  obtain ⟨es', _, q⟩ := ways_run hc L.length 0 [] (k + 12 - L.length) j N [] (by omega) (Int.le_refl _) (gd_nil hc.w1) hN hok (by have := pow12 l12; simp; omega)
  rw [show k + 12 - L.length + L.length + 2 = k + 14 by omega] at q
  exact ⟨_, call1_set q hok⟩
theorem foll_call {r L : List Int} {w m : Int} (hc : Cn r L w m) {d : Nat} {p v : Int} {t : List Bool} {k j : Nat} {N : MH} {es : List (Int × List Bool)} (hp : p + (d + 1) = L.length) (p0 : 0 ≤ p) (ht : gd w p t) (hN : N[j]? = some (.dct true (KV r L w m es))) (hok : N.all (objOk N.length) = true) (hes : es.length + 2 ^ d ≤ 60000) :
    ∃ es', es'.length + 1 ≤ es.length + 2 ^ d ∧ callW (run T (k + 15)) 1 16 [.d (LI r), .d (LI L), .d (.int w), .d (.int m), .d (.int p), .d (TB t), .d (.int v), .m j] N = some (.val (.d (.int (Fq r L w m d p t v))) (N.set j (.dct true (KV r L w m es')))) := by
  have l12 := hc.l
  have w12 := hc.w2
  have k1 : (1 : Nat) ≤ cap := by decide
  have gL := rowAt_get (xs := L) (p := p) p0 (by omega)
  have tl : t.length ≤ 900 := by
    unfold gd at ht
    split at ht <;> omega
  obtain ⟨b, hb⟩ : ∃ b, decide (v = rowAt L p) = b := ⟨_, rfl⟩
  have tw : w - 1 ≤ p → ((t ++ [b]).length : Int) = w := fun h => by
    unfold gd at ht
    rw [if_neg (by omega)] at ht
    rw [List.length_append, List.length_singleton]
    omega
  have hh := fun (M : MH) => holds_call (k := k + 13) (M := M) (r := r) (L := L) (w := w) (p := p) (t := t ++ [b]) hc.w1 (by omega) p0 (by omega) hc.rl tw
  have ca := cat_TB (t := t) (b := b) (by omega)
  have af := fun (M : MH) => after_call (k := k + 13) (M := M) (w := w) (t := t) (b := b) hc.w1 tl
  unfold Fq
  rw [hb]
  cases hd : hold r L w p (t ++ [b]) with
  | true =>
    obtain ⟨es', b1, q⟩ := ways_run hc d (p + 1) (aft w t b) (k + 12 - d) j N es (by omega) (by omega) (gd_aft hc.w1 p0 ht) hN hok hes
    rw [show k + 12 - d + d + 2 = k + 14 by omega] at q
    have q2 := call1_set q hok
    refine ⟨es', b1, call1_set ?_ hok⟩
    refine run_ret (fi := i16) rfl rfl ?_
    simp only [i16, startW, List.map_cons, List.map_nil, List.length_cons, List.length_nil, Nat.reduceAdd, Nat.reduceSub, List.replicate_succ, List.replicate_zero, List.cons_append, List.nil_append]
    apply Eq.trans
    · apply exSs_cons
      (simp only [exSs, exS, ev.eq_1, ev.eq_2, ev.eq_3, ev.eq_4, ev.eq_5, ev.eq_6, ev.eq_7, ev.eq_8, ev.eq_9, ev.eq_10, ev.eq_11, ev.eq_12, ev.eq_13, ev.eq_14, ev.eq_15, ev.eq_16, ev.eq_17, ev.eq_18, ev.eq_19, ev.eq_21, ev.eq_22, ev.eq_23, ev.eq_24, ev.eq_25, ev.eq_26, ev.eq_27, ev.eq_28, ev.eq_29, evs, evO, evB, evC, evi, obO, obL, obI, obP, obS, obLS, obIS, Wl.ret, retB, dat, dats, views, view, startW, fin, put, putAll, setAll, wipeW, List.map_cons, List.map_nil, List.length_cons, List.length_nil, List.cons_append, List.nil_append, Nat.reduceAdd, Nat.reduceSub, Nat.reduceEqDiff, List.replicate_succ, List.replicate_zero, List.getElem?_cons_zero, List.getElem?_cons_succ, List.set_cons_zero, List.set_cons_succ, Option.map_some, len_LI, len_list, add_int, sub_int, mod_int, fdv_int, mul_int, pow_int, lt_int, le_int, gt_int, ge_int, eq_int, ne_int, eq_LI, ne_LI, inn_LI, nin_LI, sli_LI, sub_LI, seq_LI, cmpW_d, is_bool, isn_bool, Bool.not_true, Bool.not_false, beq_self_eq_true, ite_true, if_true, Bool.false_eq_true, if_false, reduceIte, Dw_frz, frz_0, frz_VL, ne_bool, eq_bool, sorted_LI, seq_VL, eq_VL, ne_VL, pair_0, pair_1, len_VL, newL_f, onlyL_LI, mthO_index, max2_int, min2_int, Dw_get, Dw_set, Dw_app, Dw_len, isiW_d, isi_int_int, isi_int_bool, isi_int_list, isi_int_tuple, isi_int_str, isi_int_none, isi_int_LI, isi_int_VL, isi_bool_int, isi_bool_bool, isi_bool_list, isi_bool_tuple, isi_bool_str, isi_bool_none, isi_bool_LI, isi_bool_VL, isi_list_int, isi_list_bool, isi_list_list, isi_list_tuple, isi_list_str, isi_list_none, isi_list_LI, isi_list_VL, isi_tuple_int, isi_tuple_bool, isi_tuple_list, isi_tuple_tuple, isi_tuple_str, isi_tuple_none, isi_tuple_LI, isi_tuple_VL, isi_str_int, isi_str_bool, isi_str_list, isi_str_tuple, isi_str_str, isi_str_none, isi_str_LI, isi_str_VL, decide_true, decide_false, Bool.and_true, Bool.and_false, Bool.true_and, Bool.false_and, Bool.or_true, Bool.or_false, reduceCtorEq, gL, hb]) <;> rfl
    apply Eq.trans
    · apply exSs_cons
      (simp only [exSs, exS, ev.eq_1, ev.eq_2, ev.eq_3, ev.eq_4, ev.eq_5, ev.eq_6, ev.eq_7, ev.eq_8, ev.eq_9, ev.eq_10, ev.eq_11, ev.eq_12, ev.eq_13, ev.eq_14, ev.eq_15, ev.eq_16, ev.eq_17, ev.eq_18, ev.eq_19, ev.eq_21, ev.eq_22, ev.eq_23, ev.eq_24, ev.eq_25, ev.eq_26, ev.eq_27, ev.eq_28, ev.eq_29, evs, evO, evB, evC, evi, obO, obL, obI, obP, obS, obLS, obIS, Wl.ret, retB, dat, dats, views, view, startW, fin, put, putAll, setAll, wipeW, List.map_cons, List.map_nil, List.length_cons, List.length_nil, List.cons_append, List.nil_append, Nat.reduceAdd, Nat.reduceSub, Nat.reduceEqDiff, List.replicate_succ, List.replicate_zero, List.getElem?_cons_zero, List.getElem?_cons_succ, List.set_cons_zero, List.set_cons_succ, Option.map_some, len_LI, len_list, add_int, sub_int, mod_int, fdv_int, mul_int, pow_int, lt_int, le_int, gt_int, ge_int, eq_int, ne_int, eq_LI, ne_LI, inn_LI, nin_LI, sli_LI, sub_LI, seq_LI, cmpW_d, is_bool, isn_bool, Bool.not_true, Bool.not_false, beq_self_eq_true, ite_true, if_true, Bool.false_eq_true, if_false, reduceIte, Dw_frz, frz_0, frz_VL, ne_bool, eq_bool, sorted_LI, seq_VL, eq_VL, ne_VL, pair_0, pair_1, len_VL, newL_f, onlyL_LI, mthO_index, max2_int, min2_int, Dw_get, Dw_set, Dw_app, Dw_len, isiW_d, isi_int_int, isi_int_bool, isi_int_list, isi_int_tuple, isi_int_str, isi_int_none, isi_int_LI, isi_int_VL, isi_bool_int, isi_bool_bool, isi_bool_list, isi_bool_tuple, isi_bool_str, isi_bool_none, isi_bool_LI, isi_bool_VL, isi_list_int, isi_list_bool, isi_list_list, isi_list_tuple, isi_list_str, isi_list_none, isi_list_LI, isi_list_VL, isi_tuple_int, isi_tuple_bool, isi_tuple_list, isi_tuple_tuple, isi_tuple_str, isi_tuple_none, isi_tuple_LI, isi_tuple_VL, isi_str_int, isi_str_bool, isi_str_list, isi_str_tuple, isi_str_str, isi_str_none, isi_str_LI, isi_str_VL, decide_true, decide_false, Bool.and_true, Bool.and_false, Bool.true_and, Bool.false_and, Bool.or_true, Bool.or_false, reduceCtorEq, k1, ca, hh, hd]) <;> rfl
    simp only [exSs, exS, ev.eq_1, ev.eq_2, ev.eq_3, ev.eq_4, ev.eq_5, ev.eq_6, ev.eq_7, ev.eq_8, ev.eq_9, ev.eq_10, ev.eq_11, ev.eq_12, ev.eq_13, ev.eq_14, ev.eq_15, ev.eq_16, ev.eq_17, ev.eq_18, ev.eq_19, ev.eq_21, ev.eq_22, ev.eq_23, ev.eq_24, ev.eq_25, ev.eq_26, ev.eq_27, ev.eq_28, ev.eq_29, evs, evO, evB, evC, evi, obO, obL, obI, obP, obS, obLS, obIS, Wl.ret, retB, dat, dats, views, view, startW, fin, put, putAll, setAll, wipeW, List.map_cons, List.map_nil, List.length_cons, List.length_nil, List.cons_append, List.nil_append, Nat.reduceAdd, Nat.reduceSub, Nat.reduceEqDiff, List.replicate_succ, List.replicate_zero, List.getElem?_cons_zero, List.getElem?_cons_succ, List.set_cons_zero, List.set_cons_succ, Option.map_some, len_LI, len_list, add_int, sub_int, mod_int, fdv_int, mul_int, pow_int, lt_int, le_int, gt_int, ge_int, eq_int, ne_int, eq_LI, ne_LI, inn_LI, nin_LI, sli_LI, sub_LI, seq_LI, cmpW_d, is_bool, isn_bool, Bool.not_true, Bool.not_false, beq_self_eq_true, ite_true, if_true, Bool.false_eq_true, if_false, reduceIte, Dw_frz, frz_0, frz_VL, ne_bool, eq_bool, sorted_LI, seq_VL, eq_VL, ne_VL, pair_0, pair_1, len_VL, newL_f, onlyL_LI, mthO_index, max2_int, min2_int, Dw_get, Dw_set, Dw_app, Dw_len, isiW_d, isi_int_int, isi_int_bool, isi_int_list, isi_int_tuple, isi_int_str, isi_int_none, isi_int_LI, isi_int_VL, isi_bool_int, isi_bool_bool, isi_bool_list, isi_bool_tuple, isi_bool_str, isi_bool_none, isi_bool_LI, isi_bool_VL, isi_list_int, isi_list_bool, isi_list_list, isi_list_tuple, isi_list_str, isi_list_none, isi_list_LI, isi_list_VL, isi_tuple_int, isi_tuple_bool, isi_tuple_list, isi_tuple_tuple, isi_tuple_str, isi_tuple_none, isi_tuple_LI, isi_tuple_VL, isi_str_int, isi_str_bool, isi_str_list, isi_str_tuple, isi_str_str, isi_str_none, isi_str_LI, isi_str_VL, decide_true, decide_false, Bool.and_true, Bool.and_false, Bool.true_and, Bool.false_and, Bool.or_true, Bool.or_false, reduceCtorEq, af, q2]
  | false =>
    refine ⟨es, by have := Nat.pow_pos (n := d) (show 0 < 2 by decide); omega, ?_⟩
    rw [set_self hN]
    have q0 := call1_set (cf := run T (k + 15)) (f := 16) (j := j) (ws := [.d (LI r), .d (LI L), .d (.int w), .d (.int m), .d (.int p), .d (TB t), .d (.int v), .m j]) (N := N) (x := .int 0) (kvs := KV r L w m es) (by
      rw [set_self hN]
      refine run_ret (fi := i16) rfl rfl ?_
      simp only [i16, startW, List.map_cons, List.map_nil, List.length_cons, List.length_nil, Nat.reduceAdd, Nat.reduceSub, List.replicate_succ, List.replicate_zero, List.cons_append, List.nil_append]
      apply Eq.trans
      · apply exSs_cons
        (simp only [exSs, exS, ev.eq_1, ev.eq_2, ev.eq_3, ev.eq_4, ev.eq_5, ev.eq_6, ev.eq_7, ev.eq_8, ev.eq_9, ev.eq_10, ev.eq_11, ev.eq_12, ev.eq_13, ev.eq_14, ev.eq_15, ev.eq_16, ev.eq_17, ev.eq_18, ev.eq_19, ev.eq_21, ev.eq_22, ev.eq_23, ev.eq_24, ev.eq_25, ev.eq_26, ev.eq_27, ev.eq_28, ev.eq_29, evs, evO, evB, evC, evi, obO, obL, obI, obP, obS, obLS, obIS, Wl.ret, retB, dat, dats, views, view, startW, fin, put, putAll, setAll, wipeW, List.map_cons, List.map_nil, List.length_cons, List.length_nil, List.cons_append, List.nil_append, Nat.reduceAdd, Nat.reduceSub, Nat.reduceEqDiff, List.replicate_succ, List.replicate_zero, List.getElem?_cons_zero, List.getElem?_cons_succ, List.set_cons_zero, List.set_cons_succ, Option.map_some, len_LI, len_list, add_int, sub_int, mod_int, fdv_int, mul_int, pow_int, lt_int, le_int, gt_int, ge_int, eq_int, ne_int, eq_LI, ne_LI, inn_LI, nin_LI, sli_LI, sub_LI, seq_LI, cmpW_d, is_bool, isn_bool, Bool.not_true, Bool.not_false, beq_self_eq_true, ite_true, if_true, Bool.false_eq_true, if_false, reduceIte, Dw_frz, frz_0, frz_VL, ne_bool, eq_bool, sorted_LI, seq_VL, eq_VL, ne_VL, pair_0, pair_1, len_VL, newL_f, onlyL_LI, mthO_index, max2_int, min2_int, Dw_get, Dw_set, Dw_app, Dw_len, isiW_d, isi_int_int, isi_int_bool, isi_int_list, isi_int_tuple, isi_int_str, isi_int_none, isi_int_LI, isi_int_VL, isi_bool_int, isi_bool_bool, isi_bool_list, isi_bool_tuple, isi_bool_str, isi_bool_none, isi_bool_LI, isi_bool_VL, isi_list_int, isi_list_bool, isi_list_list, isi_list_tuple, isi_list_str, isi_list_none, isi_list_LI, isi_list_VL, isi_tuple_int, isi_tuple_bool, isi_tuple_list, isi_tuple_tuple, isi_tuple_str, isi_tuple_none, isi_tuple_LI, isi_tuple_VL, isi_str_int, isi_str_bool, isi_str_list, isi_str_tuple, isi_str_str, isi_str_none, isi_str_LI, isi_str_VL, decide_true, decide_false, Bool.and_true, Bool.and_false, Bool.true_and, Bool.false_and, Bool.or_true, Bool.or_false, reduceCtorEq, gL, hb]) <;> rfl
      rw [exSs_rt (w := .d (.int 0)) (M1 := N)]
      refine ite_t (M1 := N) (by simp only [exSs, exS, ev.eq_1, ev.eq_2, ev.eq_3, ev.eq_4, ev.eq_5, ev.eq_6, ev.eq_7, ev.eq_8, ev.eq_9, ev.eq_10, ev.eq_11, ev.eq_12, ev.eq_13, ev.eq_14, ev.eq_15, ev.eq_16, ev.eq_17, ev.eq_18, ev.eq_19, ev.eq_21, ev.eq_22, ev.eq_23, ev.eq_24, ev.eq_25, ev.eq_26, ev.eq_27, ev.eq_28, ev.eq_29, evs, evO, evB, evC, evi, obO, obL, obI, obP, obS, obLS, obIS, Wl.ret, retB, dat, dats, views, view, startW, fin, put, putAll, setAll, wipeW, List.map_cons, List.map_nil, List.length_cons, List.length_nil, List.cons_append, List.nil_append, Nat.reduceAdd, Nat.reduceSub, Nat.reduceEqDiff, List.replicate_succ, List.replicate_zero, List.getElem?_cons_zero, List.getElem?_cons_succ, List.set_cons_zero, List.set_cons_succ, Option.map_some, len_LI, len_list, add_int, sub_int, mod_int, fdv_int, mul_int, pow_int, lt_int, le_int, gt_int, ge_int, eq_int, ne_int, eq_LI, ne_LI, inn_LI, nin_LI, sli_LI, sub_LI, seq_LI, cmpW_d, is_bool, isn_bool, Bool.not_true, Bool.not_false, beq_self_eq_true, ite_true, if_true, Bool.false_eq_true, if_false, reduceIte, Dw_frz, frz_0, frz_VL, ne_bool, eq_bool, sorted_LI, seq_VL, eq_VL, ne_VL, pair_0, pair_1, len_VL, newL_f, onlyL_LI, mthO_index, max2_int, min2_int, Dw_get, Dw_set, Dw_app, Dw_len, isiW_d, isi_int_int, isi_int_bool, isi_int_list, isi_int_tuple, isi_int_str, isi_int_none, isi_int_LI, isi_int_VL, isi_bool_int, isi_bool_bool, isi_bool_list, isi_bool_tuple, isi_bool_str, isi_bool_none, isi_bool_LI, isi_bool_VL, isi_list_int, isi_list_bool, isi_list_list, isi_list_tuple, isi_list_str, isi_list_none, isi_list_LI, isi_list_VL, isi_tuple_int, isi_tuple_bool, isi_tuple_list, isi_tuple_tuple, isi_tuple_str, isi_tuple_none, isi_tuple_LI, isi_tuple_VL, isi_str_int, isi_str_bool, isi_str_list, isi_str_tuple, isi_str_str, isi_str_none, isi_str_LI, isi_str_VL, decide_true, decide_false, Bool.and_true, Bool.and_false, Bool.true_and, Bool.false_and, Bool.or_true, Bool.or_false, reduceCtorEq, k1, ca, hh, hd]) ?_
      simp only [exSs, exS, ev.eq_1, ev.eq_2, ev.eq_3, ev.eq_4, ev.eq_5, ev.eq_6, ev.eq_7, ev.eq_8, ev.eq_9, ev.eq_10, ev.eq_11, ev.eq_12, ev.eq_13, ev.eq_14, ev.eq_15, ev.eq_16, ev.eq_17, ev.eq_18, ev.eq_19, ev.eq_21, ev.eq_22, ev.eq_23, ev.eq_24, ev.eq_25, ev.eq_26, ev.eq_27, ev.eq_28, ev.eq_29, evs, evO, evB, evC, evi, obO, obL, obI, obP, obS, obLS, obIS, Wl.ret, retB, dat, dats, views, view, startW, fin, put, putAll, setAll, wipeW, List.map_cons, List.map_nil, List.length_cons, List.length_nil, List.cons_append, List.nil_append, Nat.reduceAdd, Nat.reduceSub, Nat.reduceEqDiff, List.replicate_succ, List.replicate_zero, List.getElem?_cons_zero, List.getElem?_cons_succ, List.set_cons_zero, List.set_cons_succ, Option.map_some, len_LI, len_list, add_int, sub_int, mod_int, fdv_int, mul_int, pow_int, lt_int, le_int, gt_int, ge_int, eq_int, ne_int, eq_LI, ne_LI, inn_LI, nin_LI, sli_LI, sub_LI, seq_LI, cmpW_d, is_bool, isn_bool, Bool.not_true, Bool.not_false, beq_self_eq_true, ite_true, if_true, Bool.false_eq_true, if_false, reduceIte, Dw_frz, frz_0, frz_VL, ne_bool, eq_bool, sorted_LI, seq_VL, eq_VL, ne_VL, pair_0, pair_1, len_VL, newL_f, onlyL_LI, mthO_index, max2_int, min2_int, Dw_get, Dw_set, Dw_app, Dw_len, isiW_d, isi_int_int, isi_int_bool, isi_int_list, isi_int_tuple, isi_int_str, isi_int_none, isi_int_LI, isi_int_VL, isi_bool_int, isi_bool_bool, isi_bool_list, isi_bool_tuple, isi_bool_str, isi_bool_none, isi_bool_LI, isi_bool_VL, isi_list_int, isi_list_bool, isi_list_list, isi_list_tuple, isi_list_str, isi_list_none, isi_list_LI, isi_list_VL, isi_tuple_int, isi_tuple_bool, isi_tuple_list, isi_tuple_tuple, isi_tuple_str, isi_tuple_none, isi_tuple_LI, isi_tuple_VL, isi_str_int, isi_str_bool, isi_str_list, isi_str_tuple, isi_str_str, isi_str_none, isi_str_LI, isi_str_VL, decide_true, decide_false, Bool.and_true, Bool.and_false, Bool.true_and, Bool.false_and, Bool.or_true, Bool.or_false, reduceCtorEq]) hok
    rw [set_self hN] at q0
    exact q0
theorem count_call {k : Nat} {M : MH} {r : List Int} {w m : Int} (h : okRow r) (h1 : 1 ≤ w) (h2 : w + r.length ≤ 13) (hm : 0 ≤ m ∧ m ≤ 9) : callW (run T (k + 15)) 0 15 [.d (LI r), .d (.int w), .d (.int m)] M = some (.val (.d (.int ((orig r w m).length : Nat))) M) := by
  have hl := List.length_pos_iff.mpr h.1
  have ul := upL_len r w
  have une : upL r w ≠ [] := fun z => by rw [z] at ul; simp at ul; omega
  have lo := fun (M : MH) => lows_call (k := k + 13) (M := M) (xs := upL r w) (w := w) h1 (by omega) (by omega)
  have up := fun (M : MH) => lowest_origin_call (k := k + 13) (M := M) h h1 h2
  have cl := fun (M : MH) => check_low_call (k := k + 10) (M := M) h h1 h2
  have cm := fun (M : MH) => check_most_call (k := k + 12) (M := M) hm
  have mx := max_LI une
  by_cases e : lowsL (upL r w) w = r
  · by_cases g : m < maxI (upL r w)
    · have z := orig_none (m := m) h1 h.1 (.inr ⟨_, maxI_mem une, g⟩)
      refine call0 (M' := []) ?_ rfl
      refine run_ret (fi := i15) (M' := []) rfl rfl ?_
      simp only [i15, startW, List.map_cons, List.map_nil, List.length_cons, List.length_nil, Nat.reduceAdd, Nat.reduceSub, List.replicate_succ, List.replicate_zero, List.cons_append, List.nil_append]
      apply Eq.trans
      · apply exSs_cons
        (simp only [exSs, exS, ev.eq_1, ev.eq_2, ev.eq_3, ev.eq_4, ev.eq_5, ev.eq_6, ev.eq_7, ev.eq_8, ev.eq_9, ev.eq_10, ev.eq_11, ev.eq_12, ev.eq_13, ev.eq_14, ev.eq_15, ev.eq_16, ev.eq_17, ev.eq_18, ev.eq_19, ev.eq_21, ev.eq_22, ev.eq_23, ev.eq_24, ev.eq_25, ev.eq_26, ev.eq_27, ev.eq_28, ev.eq_29, evs, evO, evB, evC, evi, obO, obL, obI, obP, obS, obLS, obIS, Wl.ret, retB, dat, dats, views, view, startW, fin, put, putAll, setAll, wipeW, List.map_cons, List.map_nil, List.length_cons, List.length_nil, List.cons_append, List.nil_append, Nat.reduceAdd, Nat.reduceSub, Nat.reduceEqDiff, List.replicate_succ, List.replicate_zero, List.getElem?_cons_zero, List.getElem?_cons_succ, List.set_cons_zero, List.set_cons_succ, Option.map_some, len_LI, len_list, add_int, sub_int, mod_int, fdv_int, mul_int, pow_int, lt_int, le_int, gt_int, ge_int, eq_int, ne_int, eq_LI, ne_LI, inn_LI, nin_LI, sli_LI, sub_LI, seq_LI, cmpW_d, is_bool, isn_bool, Bool.not_true, Bool.not_false, beq_self_eq_true, ite_true, if_true, Bool.false_eq_true, if_false, reduceIte, Dw_frz, frz_0, frz_VL, ne_bool, eq_bool, sorted_LI, seq_VL, eq_VL, ne_VL, pair_0, pair_1, len_VL, newL_f, onlyL_LI, mthO_index, max2_int, min2_int, Dw_get, Dw_set, Dw_app, Dw_len, isiW_d, isi_int_int, isi_int_bool, isi_int_list, isi_int_tuple, isi_int_str, isi_int_none, isi_int_LI, isi_int_VL, isi_bool_int, isi_bool_bool, isi_bool_list, isi_bool_tuple, isi_bool_str, isi_bool_none, isi_bool_LI, isi_bool_VL, isi_list_int, isi_list_bool, isi_list_list, isi_list_tuple, isi_list_str, isi_list_none, isi_list_LI, isi_list_VL, isi_tuple_int, isi_tuple_bool, isi_tuple_list, isi_tuple_tuple, isi_tuple_str, isi_tuple_none, isi_tuple_LI, isi_tuple_VL, isi_str_int, isi_str_bool, isi_str_list, isi_str_tuple, isi_str_str, isi_str_none, isi_str_LI, isi_str_VL, decide_true, decide_false, Bool.and_true, Bool.and_false, Bool.true_and, Bool.false_and, Bool.or_true, Bool.or_false, reduceCtorEq, cl]) <;> rfl
      apply Eq.trans
      · apply exSs_cons
        (simp only [exSs, exS, ev.eq_1, ev.eq_2, ev.eq_3, ev.eq_4, ev.eq_5, ev.eq_6, ev.eq_7, ev.eq_8, ev.eq_9, ev.eq_10, ev.eq_11, ev.eq_12, ev.eq_13, ev.eq_14, ev.eq_15, ev.eq_16, ev.eq_17, ev.eq_18, ev.eq_19, ev.eq_21, ev.eq_22, ev.eq_23, ev.eq_24, ev.eq_25, ev.eq_26, ev.eq_27, ev.eq_28, ev.eq_29, evs, evO, evB, evC, evi, obO, obL, obI, obP, obS, obLS, obIS, Wl.ret, retB, dat, dats, views, view, startW, fin, put, putAll, setAll, wipeW, List.map_cons, List.map_nil, List.length_cons, List.length_nil, List.cons_append, List.nil_append, Nat.reduceAdd, Nat.reduceSub, Nat.reduceEqDiff, List.replicate_succ, List.replicate_zero, List.getElem?_cons_zero, List.getElem?_cons_succ, List.set_cons_zero, List.set_cons_succ, Option.map_some, len_LI, len_list, add_int, sub_int, mod_int, fdv_int, mul_int, pow_int, lt_int, le_int, gt_int, ge_int, eq_int, ne_int, eq_LI, ne_LI, inn_LI, nin_LI, sli_LI, sub_LI, seq_LI, cmpW_d, is_bool, isn_bool, Bool.not_true, Bool.not_false, beq_self_eq_true, ite_true, if_true, Bool.false_eq_true, if_false, reduceIte, Dw_frz, frz_0, frz_VL, ne_bool, eq_bool, sorted_LI, seq_VL, eq_VL, ne_VL, pair_0, pair_1, len_VL, newL_f, onlyL_LI, mthO_index, max2_int, min2_int, Dw_get, Dw_set, Dw_app, Dw_len, isiW_d, isi_int_int, isi_int_bool, isi_int_list, isi_int_tuple, isi_int_str, isi_int_none, isi_int_LI, isi_int_VL, isi_bool_int, isi_bool_bool, isi_bool_list, isi_bool_tuple, isi_bool_str, isi_bool_none, isi_bool_LI, isi_bool_VL, isi_list_int, isi_list_bool, isi_list_list, isi_list_tuple, isi_list_str, isi_list_none, isi_list_LI, isi_list_VL, isi_tuple_int, isi_tuple_bool, isi_tuple_list, isi_tuple_tuple, isi_tuple_str, isi_tuple_none, isi_tuple_LI, isi_tuple_VL, isi_str_int, isi_str_bool, isi_str_list, isi_str_tuple, isi_str_str, isi_str_none, isi_str_LI, isi_str_VL, decide_true, decide_false, Bool.and_true, Bool.and_false, Bool.true_and, Bool.false_and, Bool.or_true, Bool.or_false, reduceCtorEq, cm]) <;> rfl
      apply Eq.trans
      · apply exSs_cons
        (simp only [exSs, exS, ev.eq_1, ev.eq_2, ev.eq_3, ev.eq_4, ev.eq_5, ev.eq_6, ev.eq_7, ev.eq_8, ev.eq_9, ev.eq_10, ev.eq_11, ev.eq_12, ev.eq_13, ev.eq_14, ev.eq_15, ev.eq_16, ev.eq_17, ev.eq_18, ev.eq_19, ev.eq_21, ev.eq_22, ev.eq_23, ev.eq_24, ev.eq_25, ev.eq_26, ev.eq_27, ev.eq_28, ev.eq_29, evs, evO, evB, evC, evi, obO, obL, obI, obP, obS, obLS, obIS, Wl.ret, retB, dat, dats, views, view, startW, fin, put, putAll, setAll, wipeW, List.map_cons, List.map_nil, List.length_cons, List.length_nil, List.cons_append, List.nil_append, Nat.reduceAdd, Nat.reduceSub, Nat.reduceEqDiff, List.replicate_succ, List.replicate_zero, List.getElem?_cons_zero, List.getElem?_cons_succ, List.set_cons_zero, List.set_cons_succ, Option.map_some, len_LI, len_list, add_int, sub_int, mod_int, fdv_int, mul_int, pow_int, lt_int, le_int, gt_int, ge_int, eq_int, ne_int, eq_LI, ne_LI, inn_LI, nin_LI, sli_LI, sub_LI, seq_LI, cmpW_d, is_bool, isn_bool, Bool.not_true, Bool.not_false, beq_self_eq_true, ite_true, if_true, Bool.false_eq_true, if_false, reduceIte, Dw_frz, frz_0, frz_VL, ne_bool, eq_bool, sorted_LI, seq_VL, eq_VL, ne_VL, pair_0, pair_1, len_VL, newL_f, onlyL_LI, mthO_index, max2_int, min2_int, Dw_get, Dw_set, Dw_app, Dw_len, isiW_d, isi_int_int, isi_int_bool, isi_int_list, isi_int_tuple, isi_int_str, isi_int_none, isi_int_LI, isi_int_VL, isi_bool_int, isi_bool_bool, isi_bool_list, isi_bool_tuple, isi_bool_str, isi_bool_none, isi_bool_LI, isi_bool_VL, isi_list_int, isi_list_bool, isi_list_list, isi_list_tuple, isi_list_str, isi_list_none, isi_list_LI, isi_list_VL, isi_tuple_int, isi_tuple_bool, isi_tuple_list, isi_tuple_tuple, isi_tuple_str, isi_tuple_none, isi_tuple_LI, isi_tuple_VL, isi_str_int, isi_str_bool, isi_str_list, isi_str_tuple, isi_str_str, isi_str_none, isi_str_LI, isi_str_VL, decide_true, decide_false, Bool.and_true, Bool.and_false, Bool.true_and, Bool.false_and, Bool.or_true, Bool.or_false, reduceCtorEq, up]) <;> rfl
      rw [exSs_rt (w := .d (.int 0)) (M1 := [])]
      · (rw [z]) <;> rfl
      · refine ite_t (M1 := []) (by simp only [exSs, exS, ev.eq_1, ev.eq_2, ev.eq_3, ev.eq_4, ev.eq_5, ev.eq_6, ev.eq_7, ev.eq_8, ev.eq_9, ev.eq_10, ev.eq_11, ev.eq_12, ev.eq_13, ev.eq_14, ev.eq_15, ev.eq_16, ev.eq_17, ev.eq_18, ev.eq_19, ev.eq_21, ev.eq_22, ev.eq_23, ev.eq_24, ev.eq_25, ev.eq_26, ev.eq_27, ev.eq_28, ev.eq_29, evs, evO, evB, evC, evi, obO, obL, obI, obP, obS, obLS, obIS, Wl.ret, retB, dat, dats, views, view, startW, fin, put, putAll, setAll, wipeW, List.map_cons, List.map_nil, List.length_cons, List.length_nil, List.cons_append, List.nil_append, Nat.reduceAdd, Nat.reduceSub, Nat.reduceEqDiff, List.replicate_succ, List.replicate_zero, List.getElem?_cons_zero, List.getElem?_cons_succ, List.set_cons_zero, List.set_cons_succ, Option.map_some, len_LI, len_list, add_int, sub_int, mod_int, fdv_int, mul_int, pow_int, lt_int, le_int, gt_int, ge_int, eq_int, ne_int, eq_LI, ne_LI, inn_LI, nin_LI, sli_LI, sub_LI, seq_LI, cmpW_d, is_bool, isn_bool, Bool.not_true, Bool.not_false, beq_self_eq_true, ite_true, if_true, Bool.false_eq_true, if_false, reduceIte, Dw_frz, frz_0, frz_VL, ne_bool, eq_bool, sorted_LI, seq_VL, eq_VL, ne_VL, pair_0, pair_1, len_VL, newL_f, onlyL_LI, mthO_index, max2_int, min2_int, Dw_get, Dw_set, Dw_app, Dw_len, isiW_d, isi_int_int, isi_int_bool, isi_int_list, isi_int_tuple, isi_int_str, isi_int_none, isi_int_LI, isi_int_VL, isi_bool_int, isi_bool_bool, isi_bool_list, isi_bool_tuple, isi_bool_str, isi_bool_none, isi_bool_LI, isi_bool_VL, isi_list_int, isi_list_bool, isi_list_list, isi_list_tuple, isi_list_str, isi_list_none, isi_list_LI, isi_list_VL, isi_tuple_int, isi_tuple_bool, isi_tuple_list, isi_tuple_tuple, isi_tuple_str, isi_tuple_none, isi_tuple_LI, isi_tuple_VL, isi_str_int, isi_str_bool, isi_str_list, isi_str_tuple, isi_str_str, isi_str_none, isi_str_LI, isi_str_VL, decide_true, decide_false, Bool.and_true, Bool.and_false, Bool.true_and, Bool.false_and, Bool.or_true, Bool.or_false, reduceCtorEq, lo, e, decide_eq_true, mx, decide_eq_true g]) ?_
        simp only [exSs, exS, ev.eq_1, ev.eq_2, ev.eq_3, ev.eq_4, ev.eq_5, ev.eq_6, ev.eq_7, ev.eq_8, ev.eq_9, ev.eq_10, ev.eq_11, ev.eq_12, ev.eq_13, ev.eq_14, ev.eq_15, ev.eq_16, ev.eq_17, ev.eq_18, ev.eq_19, ev.eq_21, ev.eq_22, ev.eq_23, ev.eq_24, ev.eq_25, ev.eq_26, ev.eq_27, ev.eq_28, ev.eq_29, evs, evO, evB, evC, evi, obO, obL, obI, obP, obS, obLS, obIS, Wl.ret, retB, dat, dats, views, view, startW, fin, put, putAll, setAll, wipeW, List.map_cons, List.map_nil, List.length_cons, List.length_nil, List.cons_append, List.nil_append, Nat.reduceAdd, Nat.reduceSub, Nat.reduceEqDiff, List.replicate_succ, List.replicate_zero, List.getElem?_cons_zero, List.getElem?_cons_succ, List.set_cons_zero, List.set_cons_succ, Option.map_some, len_LI, len_list, add_int, sub_int, mod_int, fdv_int, mul_int, pow_int, lt_int, le_int, gt_int, ge_int, eq_int, ne_int, eq_LI, ne_LI, inn_LI, nin_LI, sli_LI, sub_LI, seq_LI, cmpW_d, is_bool, isn_bool, Bool.not_true, Bool.not_false, beq_self_eq_true, ite_true, if_true, Bool.false_eq_true, if_false, reduceIte, Dw_frz, frz_0, frz_VL, ne_bool, eq_bool, sorted_LI, seq_VL, eq_VL, ne_VL, pair_0, pair_1, len_VL, newL_f, onlyL_LI, mthO_index, max2_int, min2_int, Dw_get, Dw_set, Dw_app, Dw_len, isiW_d, isi_int_int, isi_int_bool, isi_int_list, isi_int_tuple, isi_int_str, isi_int_none, isi_int_LI, isi_int_VL, isi_bool_int, isi_bool_bool, isi_bool_list, isi_bool_tuple, isi_bool_str, isi_bool_none, isi_bool_LI, isi_bool_VL, isi_list_int, isi_list_bool, isi_list_list, isi_list_tuple, isi_list_str, isi_list_none, isi_list_LI, isi_list_VL, isi_tuple_int, isi_tuple_bool, isi_tuple_list, isi_tuple_tuple, isi_tuple_str, isi_tuple_none, isi_tuple_LI, isi_tuple_VL, isi_str_int, isi_str_bool, isi_str_list, isi_str_tuple, isi_str_str, isi_str_none, isi_str_LI, isi_str_VL, decide_true, decide_false, Bool.and_true, Bool.and_false, Bool.true_and, Bool.false_and, Bool.or_true, Bool.or_false, reduceCtorEq]
    · have hb : ∀ v ∈ upL r w, v ≤ m := fun v hv => by have := maxI_ge hv; omega
      have hc := cn_of h h1 h2 hm hb
      obtain ⟨kvs, q⟩ := ways0_call hc (k := k) (j := 0) (N := [.dct true []]) rfl rfl
      have k0 : (0 : Nat) ≤ cap := by decide
      refine call0 (M' := [.dct true kvs]) ?_ rfl
      refine run_ret (fi := i15) (M' := [.dct true kvs]) rfl rfl ?_
      simp only [i15, startW, List.map_cons, List.map_nil, List.length_cons, List.length_nil, Nat.reduceAdd, Nat.reduceSub, List.replicate_succ, List.replicate_zero, List.cons_append, List.nil_append]
      rw [orig_len h1 h.1 e (cn_bound hc)]
      apply Eq.trans
      · apply exSs_cons
        (simp only [exSs, exS, ev.eq_1, ev.eq_2, ev.eq_3, ev.eq_4, ev.eq_5, ev.eq_6, ev.eq_7, ev.eq_8, ev.eq_9, ev.eq_10, ev.eq_11, ev.eq_12, ev.eq_13, ev.eq_14, ev.eq_15, ev.eq_16, ev.eq_17, ev.eq_18, ev.eq_19, ev.eq_21, ev.eq_22, ev.eq_23, ev.eq_24, ev.eq_25, ev.eq_26, ev.eq_27, ev.eq_28, ev.eq_29, evs, evO, evB, evC, evi, obO, obL, obI, obP, obS, obLS, obIS, Wl.ret, retB, dat, dats, views, view, startW, fin, put, putAll, setAll, wipeW, List.map_cons, List.map_nil, List.length_cons, List.length_nil, List.cons_append, List.nil_append, Nat.reduceAdd, Nat.reduceSub, Nat.reduceEqDiff, List.replicate_succ, List.replicate_zero, List.getElem?_cons_zero, List.getElem?_cons_succ, List.set_cons_zero, List.set_cons_succ, Option.map_some, len_LI, len_list, add_int, sub_int, mod_int, fdv_int, mul_int, pow_int, lt_int, le_int, gt_int, ge_int, eq_int, ne_int, eq_LI, ne_LI, inn_LI, nin_LI, sli_LI, sub_LI, seq_LI, cmpW_d, is_bool, isn_bool, Bool.not_true, Bool.not_false, beq_self_eq_true, ite_true, if_true, Bool.false_eq_true, if_false, reduceIte, Dw_frz, frz_0, frz_VL, ne_bool, eq_bool, sorted_LI, seq_VL, eq_VL, ne_VL, pair_0, pair_1, len_VL, newL_f, onlyL_LI, mthO_index, max2_int, min2_int, Dw_get, Dw_set, Dw_app, Dw_len, isiW_d, isi_int_int, isi_int_bool, isi_int_list, isi_int_tuple, isi_int_str, isi_int_none, isi_int_LI, isi_int_VL, isi_bool_int, isi_bool_bool, isi_bool_list, isi_bool_tuple, isi_bool_str, isi_bool_none, isi_bool_LI, isi_bool_VL, isi_list_int, isi_list_bool, isi_list_list, isi_list_tuple, isi_list_str, isi_list_none, isi_list_LI, isi_list_VL, isi_tuple_int, isi_tuple_bool, isi_tuple_list, isi_tuple_tuple, isi_tuple_str, isi_tuple_none, isi_tuple_LI, isi_tuple_VL, isi_str_int, isi_str_bool, isi_str_list, isi_str_tuple, isi_str_str, isi_str_none, isi_str_LI, isi_str_VL, decide_true, decide_false, Bool.and_true, Bool.and_false, Bool.true_and, Bool.false_and, Bool.or_true, Bool.or_false, reduceCtorEq, cl]) <;> rfl
      apply Eq.trans
      · apply exSs_cons
        (simp only [exSs, exS, ev.eq_1, ev.eq_2, ev.eq_3, ev.eq_4, ev.eq_5, ev.eq_6, ev.eq_7, ev.eq_8, ev.eq_9, ev.eq_10, ev.eq_11, ev.eq_12, ev.eq_13, ev.eq_14, ev.eq_15, ev.eq_16, ev.eq_17, ev.eq_18, ev.eq_19, ev.eq_21, ev.eq_22, ev.eq_23, ev.eq_24, ev.eq_25, ev.eq_26, ev.eq_27, ev.eq_28, ev.eq_29, evs, evO, evB, evC, evi, obO, obL, obI, obP, obS, obLS, obIS, Wl.ret, retB, dat, dats, views, view, startW, fin, put, putAll, setAll, wipeW, List.map_cons, List.map_nil, List.length_cons, List.length_nil, List.cons_append, List.nil_append, Nat.reduceAdd, Nat.reduceSub, Nat.reduceEqDiff, List.replicate_succ, List.replicate_zero, List.getElem?_cons_zero, List.getElem?_cons_succ, List.set_cons_zero, List.set_cons_succ, Option.map_some, len_LI, len_list, add_int, sub_int, mod_int, fdv_int, mul_int, pow_int, lt_int, le_int, gt_int, ge_int, eq_int, ne_int, eq_LI, ne_LI, inn_LI, nin_LI, sli_LI, sub_LI, seq_LI, cmpW_d, is_bool, isn_bool, Bool.not_true, Bool.not_false, beq_self_eq_true, ite_true, if_true, Bool.false_eq_true, if_false, reduceIte, Dw_frz, frz_0, frz_VL, ne_bool, eq_bool, sorted_LI, seq_VL, eq_VL, ne_VL, pair_0, pair_1, len_VL, newL_f, onlyL_LI, mthO_index, max2_int, min2_int, Dw_get, Dw_set, Dw_app, Dw_len, isiW_d, isi_int_int, isi_int_bool, isi_int_list, isi_int_tuple, isi_int_str, isi_int_none, isi_int_LI, isi_int_VL, isi_bool_int, isi_bool_bool, isi_bool_list, isi_bool_tuple, isi_bool_str, isi_bool_none, isi_bool_LI, isi_bool_VL, isi_list_int, isi_list_bool, isi_list_list, isi_list_tuple, isi_list_str, isi_list_none, isi_list_LI, isi_list_VL, isi_tuple_int, isi_tuple_bool, isi_tuple_list, isi_tuple_tuple, isi_tuple_str, isi_tuple_none, isi_tuple_LI, isi_tuple_VL, isi_str_int, isi_str_bool, isi_str_list, isi_str_tuple, isi_str_str, isi_str_none, isi_str_LI, isi_str_VL, decide_true, decide_false, Bool.and_true, Bool.and_false, Bool.true_and, Bool.false_and, Bool.or_true, Bool.or_false, reduceCtorEq, cm]) <;> rfl
      apply Eq.trans
      · apply exSs_cons
        (simp only [exSs, exS, ev.eq_1, ev.eq_2, ev.eq_3, ev.eq_4, ev.eq_5, ev.eq_6, ev.eq_7, ev.eq_8, ev.eq_9, ev.eq_10, ev.eq_11, ev.eq_12, ev.eq_13, ev.eq_14, ev.eq_15, ev.eq_16, ev.eq_17, ev.eq_18, ev.eq_19, ev.eq_21, ev.eq_22, ev.eq_23, ev.eq_24, ev.eq_25, ev.eq_26, ev.eq_27, ev.eq_28, ev.eq_29, evs, evO, evB, evC, evi, obO, obL, obI, obP, obS, obLS, obIS, Wl.ret, retB, dat, dats, views, view, startW, fin, put, putAll, setAll, wipeW, List.map_cons, List.map_nil, List.length_cons, List.length_nil, List.cons_append, List.nil_append, Nat.reduceAdd, Nat.reduceSub, Nat.reduceEqDiff, List.replicate_succ, List.replicate_zero, List.getElem?_cons_zero, List.getElem?_cons_succ, List.set_cons_zero, List.set_cons_succ, Option.map_some, len_LI, len_list, add_int, sub_int, mod_int, fdv_int, mul_int, pow_int, lt_int, le_int, gt_int, ge_int, eq_int, ne_int, eq_LI, ne_LI, inn_LI, nin_LI, sli_LI, sub_LI, seq_LI, cmpW_d, is_bool, isn_bool, Bool.not_true, Bool.not_false, beq_self_eq_true, ite_true, if_true, Bool.false_eq_true, if_false, reduceIte, Dw_frz, frz_0, frz_VL, ne_bool, eq_bool, sorted_LI, seq_VL, eq_VL, ne_VL, pair_0, pair_1, len_VL, newL_f, onlyL_LI, mthO_index, max2_int, min2_int, Dw_get, Dw_set, Dw_app, Dw_len, isiW_d, isi_int_int, isi_int_bool, isi_int_list, isi_int_tuple, isi_int_str, isi_int_none, isi_int_LI, isi_int_VL, isi_bool_int, isi_bool_bool, isi_bool_list, isi_bool_tuple, isi_bool_str, isi_bool_none, isi_bool_LI, isi_bool_VL, isi_list_int, isi_list_bool, isi_list_list, isi_list_tuple, isi_list_str, isi_list_none, isi_list_LI, isi_list_VL, isi_tuple_int, isi_tuple_bool, isi_tuple_list, isi_tuple_tuple, isi_tuple_str, isi_tuple_none, isi_tuple_LI, isi_tuple_VL, isi_str_int, isi_str_bool, isi_str_list, isi_str_tuple, isi_str_str, isi_str_none, isi_str_LI, isi_str_VL, decide_true, decide_false, Bool.and_true, Bool.and_false, Bool.true_and, Bool.false_and, Bool.or_true, Bool.or_false, reduceCtorEq, up]) <;> rfl
      apply Eq.trans
      · apply exSs_cons
        apply ite_skip
        simp only [exSs, exS, ev.eq_1, ev.eq_2, ev.eq_3, ev.eq_4, ev.eq_5, ev.eq_6, ev.eq_7, ev.eq_8, ev.eq_9, ev.eq_10, ev.eq_11, ev.eq_12, ev.eq_13, ev.eq_14, ev.eq_15, ev.eq_16, ev.eq_17, ev.eq_18, ev.eq_19, ev.eq_21, ev.eq_22, ev.eq_23, ev.eq_24, ev.eq_25, ev.eq_26, ev.eq_27, ev.eq_28, ev.eq_29, evs, evO, evB, evC, evi, obO, obL, obI, obP, obS, obLS, obIS, Wl.ret, retB, dat, dats, views, view, startW, fin, put, putAll, setAll, wipeW, List.map_cons, List.map_nil, List.length_cons, List.length_nil, List.cons_append, List.nil_append, Nat.reduceAdd, Nat.reduceSub, Nat.reduceEqDiff, List.replicate_succ, List.replicate_zero, List.getElem?_cons_zero, List.getElem?_cons_succ, List.set_cons_zero, List.set_cons_succ, Option.map_some, len_LI, len_list, add_int, sub_int, mod_int, fdv_int, mul_int, pow_int, lt_int, le_int, gt_int, ge_int, eq_int, ne_int, eq_LI, ne_LI, inn_LI, nin_LI, sli_LI, sub_LI, seq_LI, cmpW_d, is_bool, isn_bool, Bool.not_true, Bool.not_false, beq_self_eq_true, ite_true, if_true, Bool.false_eq_true, if_false, reduceIte, Dw_frz, frz_0, frz_VL, ne_bool, eq_bool, sorted_LI, seq_VL, eq_VL, ne_VL, pair_0, pair_1, len_VL, newL_f, onlyL_LI, mthO_index, max2_int, min2_int, Dw_get, Dw_set, Dw_app, Dw_len, isiW_d, isi_int_int, isi_int_bool, isi_int_list, isi_int_tuple, isi_int_str, isi_int_none, isi_int_LI, isi_int_VL, isi_bool_int, isi_bool_bool, isi_bool_list, isi_bool_tuple, isi_bool_str, isi_bool_none, isi_bool_LI, isi_bool_VL, isi_list_int, isi_list_bool, isi_list_list, isi_list_tuple, isi_list_str, isi_list_none, isi_list_LI, isi_list_VL, isi_tuple_int, isi_tuple_bool, isi_tuple_list, isi_tuple_tuple, isi_tuple_str, isi_tuple_none, isi_tuple_LI, isi_tuple_VL, isi_str_int, isi_str_bool, isi_str_list, isi_str_tuple, isi_str_str, isi_str_none, isi_str_LI, isi_str_VL, decide_true, decide_false, Bool.and_true, Bool.and_false, Bool.true_and, Bool.false_and, Bool.or_true, Bool.or_false, reduceCtorEq, lo, e, decide_eq_true, mx, decide_eq_false g]
        rfl
      (simp only [exSs, exS, ev.eq_1, ev.eq_2, ev.eq_3, ev.eq_4, ev.eq_5, ev.eq_6, ev.eq_7, ev.eq_8, ev.eq_9, ev.eq_10, ev.eq_11, ev.eq_12, ev.eq_13, ev.eq_14, ev.eq_15, ev.eq_16, ev.eq_17, ev.eq_18, ev.eq_19, ev.eq_21, ev.eq_22, ev.eq_23, ev.eq_24, ev.eq_25, ev.eq_26, ev.eq_27, ev.eq_28, ev.eq_29, evs, evO, evB, evC, evi, obO, obL, obI, obP, obS, obLS, obIS, Wl.ret, retB, dat, dats, views, view, startW, fin, put, putAll, setAll, wipeW, List.map_cons, List.map_nil, List.length_cons, List.length_nil, List.cons_append, List.nil_append, Nat.reduceAdd, Nat.reduceSub, Nat.reduceEqDiff, List.replicate_succ, List.replicate_zero, List.getElem?_cons_zero, List.getElem?_cons_succ, List.set_cons_zero, List.set_cons_succ, Option.map_some, len_LI, len_list, add_int, sub_int, mod_int, fdv_int, mul_int, pow_int, lt_int, le_int, gt_int, ge_int, eq_int, ne_int, eq_LI, ne_LI, inn_LI, nin_LI, sli_LI, sub_LI, seq_LI, cmpW_d, is_bool, isn_bool, Bool.not_true, Bool.not_false, beq_self_eq_true, ite_true, if_true, Bool.false_eq_true, if_false, reduceIte, Dw_frz, frz_0, frz_VL, ne_bool, eq_bool, sorted_LI, seq_VL, eq_VL, ne_VL, pair_0, pair_1, len_VL, newL_f, onlyL_LI, mthO_index, max2_int, min2_int, Dw_get, Dw_set, Dw_app, Dw_len, isiW_d, isi_int_int, isi_int_bool, isi_int_list, isi_int_tuple, isi_int_str, isi_int_none, isi_int_LI, isi_int_VL, isi_bool_int, isi_bool_bool, isi_bool_list, isi_bool_tuple, isi_bool_str, isi_bool_none, isi_bool_LI, isi_bool_VL, isi_list_int, isi_list_bool, isi_list_list, isi_list_tuple, isi_list_str, isi_list_none, isi_list_LI, isi_list_VL, isi_tuple_int, isi_tuple_bool, isi_tuple_list, isi_tuple_tuple, isi_tuple_str, isi_tuple_none, isi_tuple_LI, isi_tuple_VL, isi_str_int, isi_str_bool, isi_str_list, isi_str_tuple, isi_str_str, isi_str_none, isi_str_LI, isi_str_VL, decide_true, decide_false, Bool.and_true, Bool.and_false, Bool.true_and, Bool.false_and, Bool.or_true, Bool.or_false, reduceCtorEq, k0, q]) <;> rfl
  · have z := orig_none (m := m) h1 h.1 (.inl e)
    refine call0 (M' := []) ?_ rfl
    refine run_ret (fi := i15) (M' := []) rfl rfl ?_
    simp only [i15, startW, List.map_cons, List.map_nil, List.length_cons, List.length_nil, Nat.reduceAdd, Nat.reduceSub, List.replicate_succ, List.replicate_zero, List.cons_append, List.nil_append]
    apply Eq.trans
    · apply exSs_cons
      (simp only [exSs, exS, ev.eq_1, ev.eq_2, ev.eq_3, ev.eq_4, ev.eq_5, ev.eq_6, ev.eq_7, ev.eq_8, ev.eq_9, ev.eq_10, ev.eq_11, ev.eq_12, ev.eq_13, ev.eq_14, ev.eq_15, ev.eq_16, ev.eq_17, ev.eq_18, ev.eq_19, ev.eq_21, ev.eq_22, ev.eq_23, ev.eq_24, ev.eq_25, ev.eq_26, ev.eq_27, ev.eq_28, ev.eq_29, evs, evO, evB, evC, evi, obO, obL, obI, obP, obS, obLS, obIS, Wl.ret, retB, dat, dats, views, view, startW, fin, put, putAll, setAll, wipeW, List.map_cons, List.map_nil, List.length_cons, List.length_nil, List.cons_append, List.nil_append, Nat.reduceAdd, Nat.reduceSub, Nat.reduceEqDiff, List.replicate_succ, List.replicate_zero, List.getElem?_cons_zero, List.getElem?_cons_succ, List.set_cons_zero, List.set_cons_succ, Option.map_some, len_LI, len_list, add_int, sub_int, mod_int, fdv_int, mul_int, pow_int, lt_int, le_int, gt_int, ge_int, eq_int, ne_int, eq_LI, ne_LI, inn_LI, nin_LI, sli_LI, sub_LI, seq_LI, cmpW_d, is_bool, isn_bool, Bool.not_true, Bool.not_false, beq_self_eq_true, ite_true, if_true, Bool.false_eq_true, if_false, reduceIte, Dw_frz, frz_0, frz_VL, ne_bool, eq_bool, sorted_LI, seq_VL, eq_VL, ne_VL, pair_0, pair_1, len_VL, newL_f, onlyL_LI, mthO_index, max2_int, min2_int, Dw_get, Dw_set, Dw_app, Dw_len, isiW_d, isi_int_int, isi_int_bool, isi_int_list, isi_int_tuple, isi_int_str, isi_int_none, isi_int_LI, isi_int_VL, isi_bool_int, isi_bool_bool, isi_bool_list, isi_bool_tuple, isi_bool_str, isi_bool_none, isi_bool_LI, isi_bool_VL, isi_list_int, isi_list_bool, isi_list_list, isi_list_tuple, isi_list_str, isi_list_none, isi_list_LI, isi_list_VL, isi_tuple_int, isi_tuple_bool, isi_tuple_list, isi_tuple_tuple, isi_tuple_str, isi_tuple_none, isi_tuple_LI, isi_tuple_VL, isi_str_int, isi_str_bool, isi_str_list, isi_str_tuple, isi_str_str, isi_str_none, isi_str_LI, isi_str_VL, decide_true, decide_false, Bool.and_true, Bool.and_false, Bool.true_and, Bool.false_and, Bool.or_true, Bool.or_false, reduceCtorEq, cl]) <;> rfl
    apply Eq.trans
    · apply exSs_cons
      (simp only [exSs, exS, ev.eq_1, ev.eq_2, ev.eq_3, ev.eq_4, ev.eq_5, ev.eq_6, ev.eq_7, ev.eq_8, ev.eq_9, ev.eq_10, ev.eq_11, ev.eq_12, ev.eq_13, ev.eq_14, ev.eq_15, ev.eq_16, ev.eq_17, ev.eq_18, ev.eq_19, ev.eq_21, ev.eq_22, ev.eq_23, ev.eq_24, ev.eq_25, ev.eq_26, ev.eq_27, ev.eq_28, ev.eq_29, evs, evO, evB, evC, evi, obO, obL, obI, obP, obS, obLS, obIS, Wl.ret, retB, dat, dats, views, view, startW, fin, put, putAll, setAll, wipeW, List.map_cons, List.map_nil, List.length_cons, List.length_nil, List.cons_append, List.nil_append, Nat.reduceAdd, Nat.reduceSub, Nat.reduceEqDiff, List.replicate_succ, List.replicate_zero, List.getElem?_cons_zero, List.getElem?_cons_succ, List.set_cons_zero, List.set_cons_succ, Option.map_some, len_LI, len_list, add_int, sub_int, mod_int, fdv_int, mul_int, pow_int, lt_int, le_int, gt_int, ge_int, eq_int, ne_int, eq_LI, ne_LI, inn_LI, nin_LI, sli_LI, sub_LI, seq_LI, cmpW_d, is_bool, isn_bool, Bool.not_true, Bool.not_false, beq_self_eq_true, ite_true, if_true, Bool.false_eq_true, if_false, reduceIte, Dw_frz, frz_0, frz_VL, ne_bool, eq_bool, sorted_LI, seq_VL, eq_VL, ne_VL, pair_0, pair_1, len_VL, newL_f, onlyL_LI, mthO_index, max2_int, min2_int, Dw_get, Dw_set, Dw_app, Dw_len, isiW_d, isi_int_int, isi_int_bool, isi_int_list, isi_int_tuple, isi_int_str, isi_int_none, isi_int_LI, isi_int_VL, isi_bool_int, isi_bool_bool, isi_bool_list, isi_bool_tuple, isi_bool_str, isi_bool_none, isi_bool_LI, isi_bool_VL, isi_list_int, isi_list_bool, isi_list_list, isi_list_tuple, isi_list_str, isi_list_none, isi_list_LI, isi_list_VL, isi_tuple_int, isi_tuple_bool, isi_tuple_list, isi_tuple_tuple, isi_tuple_str, isi_tuple_none, isi_tuple_LI, isi_tuple_VL, isi_str_int, isi_str_bool, isi_str_list, isi_str_tuple, isi_str_str, isi_str_none, isi_str_LI, isi_str_VL, decide_true, decide_false, Bool.and_true, Bool.and_false, Bool.true_and, Bool.false_and, Bool.or_true, Bool.or_false, reduceCtorEq, cm]) <;> rfl
    apply Eq.trans
    · apply exSs_cons
      (simp only [exSs, exS, ev.eq_1, ev.eq_2, ev.eq_3, ev.eq_4, ev.eq_5, ev.eq_6, ev.eq_7, ev.eq_8, ev.eq_9, ev.eq_10, ev.eq_11, ev.eq_12, ev.eq_13, ev.eq_14, ev.eq_15, ev.eq_16, ev.eq_17, ev.eq_18, ev.eq_19, ev.eq_21, ev.eq_22, ev.eq_23, ev.eq_24, ev.eq_25, ev.eq_26, ev.eq_27, ev.eq_28, ev.eq_29, evs, evO, evB, evC, evi, obO, obL, obI, obP, obS, obLS, obIS, Wl.ret, retB, dat, dats, views, view, startW, fin, put, putAll, setAll, wipeW, List.map_cons, List.map_nil, List.length_cons, List.length_nil, List.cons_append, List.nil_append, Nat.reduceAdd, Nat.reduceSub, Nat.reduceEqDiff, List.replicate_succ, List.replicate_zero, List.getElem?_cons_zero, List.getElem?_cons_succ, List.set_cons_zero, List.set_cons_succ, Option.map_some, len_LI, len_list, add_int, sub_int, mod_int, fdv_int, mul_int, pow_int, lt_int, le_int, gt_int, ge_int, eq_int, ne_int, eq_LI, ne_LI, inn_LI, nin_LI, sli_LI, sub_LI, seq_LI, cmpW_d, is_bool, isn_bool, Bool.not_true, Bool.not_false, beq_self_eq_true, ite_true, if_true, Bool.false_eq_true, if_false, reduceIte, Dw_frz, frz_0, frz_VL, ne_bool, eq_bool, sorted_LI, seq_VL, eq_VL, ne_VL, pair_0, pair_1, len_VL, newL_f, onlyL_LI, mthO_index, max2_int, min2_int, Dw_get, Dw_set, Dw_app, Dw_len, isiW_d, isi_int_int, isi_int_bool, isi_int_list, isi_int_tuple, isi_int_str, isi_int_none, isi_int_LI, isi_int_VL, isi_bool_int, isi_bool_bool, isi_bool_list, isi_bool_tuple, isi_bool_str, isi_bool_none, isi_bool_LI, isi_bool_VL, isi_list_int, isi_list_bool, isi_list_list, isi_list_tuple, isi_list_str, isi_list_none, isi_list_LI, isi_list_VL, isi_tuple_int, isi_tuple_bool, isi_tuple_list, isi_tuple_tuple, isi_tuple_str, isi_tuple_none, isi_tuple_LI, isi_tuple_VL, isi_str_int, isi_str_bool, isi_str_list, isi_str_tuple, isi_str_str, isi_str_none, isi_str_LI, isi_str_VL, decide_true, decide_false, Bool.and_true, Bool.and_false, Bool.true_and, Bool.false_and, Bool.or_true, Bool.or_false, reduceCtorEq, up]) <;> rfl
    rw [exSs_rt (w := .d (.int 0)) (M1 := [])]
    · (rw [z]) <;> rfl
    · refine ite_t (M1 := []) (by simp only [exSs, exS, ev.eq_1, ev.eq_2, ev.eq_3, ev.eq_4, ev.eq_5, ev.eq_6, ev.eq_7, ev.eq_8, ev.eq_9, ev.eq_10, ev.eq_11, ev.eq_12, ev.eq_13, ev.eq_14, ev.eq_15, ev.eq_16, ev.eq_17, ev.eq_18, ev.eq_19, ev.eq_21, ev.eq_22, ev.eq_23, ev.eq_24, ev.eq_25, ev.eq_26, ev.eq_27, ev.eq_28, ev.eq_29, evs, evO, evB, evC, evi, obO, obL, obI, obP, obS, obLS, obIS, Wl.ret, retB, dat, dats, views, view, startW, fin, put, putAll, setAll, wipeW, List.map_cons, List.map_nil, List.length_cons, List.length_nil, List.cons_append, List.nil_append, Nat.reduceAdd, Nat.reduceSub, Nat.reduceEqDiff, List.replicate_succ, List.replicate_zero, List.getElem?_cons_zero, List.getElem?_cons_succ, List.set_cons_zero, List.set_cons_succ, Option.map_some, len_LI, len_list, add_int, sub_int, mod_int, fdv_int, mul_int, pow_int, lt_int, le_int, gt_int, ge_int, eq_int, ne_int, eq_LI, ne_LI, inn_LI, nin_LI, sli_LI, sub_LI, seq_LI, cmpW_d, is_bool, isn_bool, Bool.not_true, Bool.not_false, beq_self_eq_true, ite_true, if_true, Bool.false_eq_true, if_false, reduceIte, Dw_frz, frz_0, frz_VL, ne_bool, eq_bool, sorted_LI, seq_VL, eq_VL, ne_VL, pair_0, pair_1, len_VL, newL_f, onlyL_LI, mthO_index, max2_int, min2_int, Dw_get, Dw_set, Dw_app, Dw_len, isiW_d, isi_int_int, isi_int_bool, isi_int_list, isi_int_tuple, isi_int_str, isi_int_none, isi_int_LI, isi_int_VL, isi_bool_int, isi_bool_bool, isi_bool_list, isi_bool_tuple, isi_bool_str, isi_bool_none, isi_bool_LI, isi_bool_VL, isi_list_int, isi_list_bool, isi_list_list, isi_list_tuple, isi_list_str, isi_list_none, isi_list_LI, isi_list_VL, isi_tuple_int, isi_tuple_bool, isi_tuple_list, isi_tuple_tuple, isi_tuple_str, isi_tuple_none, isi_tuple_LI, isi_tuple_VL, isi_str_int, isi_str_bool, isi_str_list, isi_str_tuple, isi_str_str, isi_str_none, isi_str_LI, isi_str_VL, decide_true, decide_false, Bool.and_true, Bool.and_false, Bool.true_and, Bool.false_and, Bool.or_true, Bool.or_false, reduceCtorEq, lo, decide_eq_false e]) ?_
      simp only [exSs, exS, ev.eq_1, ev.eq_2, ev.eq_3, ev.eq_4, ev.eq_5, ev.eq_6, ev.eq_7, ev.eq_8, ev.eq_9, ev.eq_10, ev.eq_11, ev.eq_12, ev.eq_13, ev.eq_14, ev.eq_15, ev.eq_16, ev.eq_17, ev.eq_18, ev.eq_19, ev.eq_21, ev.eq_22, ev.eq_23, ev.eq_24, ev.eq_25, ev.eq_26, ev.eq_27, ev.eq_28, ev.eq_29, evs, evO, evB, evC, evi, obO, obL, obI, obP, obS, obLS, obIS, Wl.ret, retB, dat, dats, views, view, startW, fin, put, putAll, setAll, wipeW, List.map_cons, List.map_nil, List.length_cons, List.length_nil, List.cons_append, List.nil_append, Nat.reduceAdd, Nat.reduceSub, Nat.reduceEqDiff, List.replicate_succ, List.replicate_zero, List.getElem?_cons_zero, List.getElem?_cons_succ, List.set_cons_zero, List.set_cons_succ, Option.map_some, len_LI, len_list, add_int, sub_int, mod_int, fdv_int, mul_int, pow_int, lt_int, le_int, gt_int, ge_int, eq_int, ne_int, eq_LI, ne_LI, inn_LI, nin_LI, sli_LI, sub_LI, seq_LI, cmpW_d, is_bool, isn_bool, Bool.not_true, Bool.not_false, beq_self_eq_true, ite_true, if_true, Bool.false_eq_true, if_false, reduceIte, Dw_frz, frz_0, frz_VL, ne_bool, eq_bool, sorted_LI, seq_VL, eq_VL, ne_VL, pair_0, pair_1, len_VL, newL_f, onlyL_LI, mthO_index, max2_int, min2_int, Dw_get, Dw_set, Dw_app, Dw_len, isiW_d, isi_int_int, isi_int_bool, isi_int_list, isi_int_tuple, isi_int_str, isi_int_none, isi_int_LI, isi_int_VL, isi_bool_int, isi_bool_bool, isi_bool_list, isi_bool_tuple, isi_bool_str, isi_bool_none, isi_bool_LI, isi_bool_VL, isi_list_int, isi_list_bool, isi_list_list, isi_list_tuple, isi_list_str, isi_list_none, isi_list_LI, isi_list_VL, isi_tuple_int, isi_tuple_bool, isi_tuple_list, isi_tuple_tuple, isi_tuple_str, isi_tuple_none, isi_tuple_LI, isi_tuple_VL, isi_str_int, isi_str_bool, isi_str_list, isi_str_tuple, isi_str_str, isi_str_none, isi_str_LI, isi_str_VL, decide_true, decide_false, Bool.and_true, Bool.and_false, Bool.true_and, Bool.false_and, Bool.or_true, Bool.or_false, reduceCtorEq]
theorem span_at {a b : Int} {c : Nat} {x : PyData} (h : ((span a b).map PyData.int)[c]? = some x) : x = .int (a + c) ∧ (span a b)[c]? = some (a + c) ∧ a + c < b := by
  obtain ⟨v, hv, rfl⟩ := map_get h
  have hl := (List.getElem?_eq_some_iff.mp hv).1
  rw [span_len] at hl
  have e : (span a b)[c]? = some (a + c) := by
    unfold span
    rw [List.getElem?_map, List.getElem?_range (by omega)]
    rfl
  rw [e] at hv
  cases hv
  exact ⟨rfl, e, by omega⟩
theorem drop_row {o : List Int} {i : Nat} (h : i < o.length) : o.drop i = rowAt o i :: o.drop (i + 1) := by
  have e := rowAt_get (xs := o) (p := i) (by omega) (by omega)
  rw [Wl.atI_nat (by omega), Int.toNat_natCast] at e
  have g := List.getElem?_eq_getElem h
  rw [g] at e
  rw [List.drop_eq_getElem_cons h]
  congr 1
  exact Option.some.inj e
theorem rank_call {k : Nat} {M : MH} {o : List Int} {w m : Int} (ho : okRow o) (h1 : 1 ≤ w) (h2 : w ≤ o.length) (hm : 0 ≤ m ∧ m ≤ 9) (hb : ∀ v ∈ o, v ≤ m) : callW (run T (k + 17)) 0 17 [.d (LI o), .d (.int w), .d (.int m)] M = some (.val (.d (.int (rk (lowsL o w) (upL (lowsL o w) w) w m o.length 0 [] o))) M) := by
  have ol := List.length_pos_iff.mpr ho.1
  have o12 := ho.2.1
  obtain ⟨r, hr⟩ : ∃ r, lowsL o w = r := ⟨_, rfl⟩
  have rl : r.length = o.length - w.toNat + 1 := by rw [← hr, lowsL_len]
  have hrk : okRow r := by rw [← hr]; exact okRow_lows ho h1 h2
  have w13 : w + r.length ≤ 13 := by omega
  have e := up_lows h1 h2 hr
  have ul := upL_len r w
  have ue : (upL r w).length = o.length := by omega
  have une : upL r w ≠ [] := fun z => by rw [z] at ul; simp at ul; omega
  have lo_ge : ∀ p : Int, 0 ≤ p → p < o.length → rowAt (upL r w) p ≤ rowAt o p := fun p p0 p1 => up_least (os := o) h1 h2 hr p0 p1
  have om : ∀ p : Int, 0 ≤ p → p < o.length → rowAt o p ≤ m ∧ 0 ≤ rowAt o p := fun p p0 p1 => by
    have e := rowAt_get (xs := o) (p := p) p0 p1
    rw [Wl.atI_nat p0] at e
    have hmm := List.mem_of_getElem? e
    exact ⟨hb _ hmm, (ho.2.2 _ hmm).1⟩
  have hbu : ∀ v ∈ upL r w, v ≤ m := fun v hv => by
    obtain ⟨i, hi⟩ := List.getElem?_of_mem hv
    have hil := (List.getElem?_eq_some_iff.mp hi).1
    have g := rowAt_get (xs := upL r w) (p := i) (by omega) (by omega)
    rw [Wl.atI_nat (by omega), Int.toNat_natCast, hi] at g
    have a := lo_ge i (by omega) (by omega)
    have b := (om i (by omega) (by omega)).1
    rw [Option.some.inj g]
    omega
  have hc := cn_of hrk h1 w13 hm hbu
  have k0 : (0 : Nat) ≤ cap := by decide
  have cw := fun (M : MH) => check_width_call (k := k + 14) (M := M) (xs := o) h1 h2
  have cr := fun (M : MH) => check_row_call (k := k + 13) (M := M) ho
  have cm := fun (M : MH) => check_most_call (k := k + 14) (M := M) hm
  have lo := fun (M : MH) => lows_call (k := k + 15) (M := M) (xs := o) (w := w) h1 h2 (by omega)
  have up := fun (M : MH) => lowest_origin_call (k := k + 15) (M := M) hrk h1 w13
  have mx := max_LI ho.1
  have mo : ¬ m < maxI o := fun z => by have := hb _ (maxI_mem ho.1); omega
  rw [hr] at lo ⊢
  obtain ⟨L, hL⟩ : ∃ L, upL r w = L := ⟨_, rfl⟩
  rw [hL] at ul ue lo_ge hc up e ⊢
  have fc := fun {d : Nat} {p v : Int} {t : List Bool} {es : List (Int × List Bool)} (hp : p + (d + 1) = L.length) (p0 : 0 ≤ p) (ht : gd w p t) (hes : es.length + 2 ^ d ≤ 60000) => foll_call hc (k := k + 1) (j := 0) (N := [.dct true (KV r L w m es)]) (v := v) hp p0 ht rfl rfl hes
  -- the places
  obtain ⟨σ4, M4, f1, v8, v9, found, t, es, rfl, rfl, g1, g2, g3⟩ := forF_at (step := fun x σ1 N => match put [8] x σ1 with
      | some σ2 => exSs (run T (k + 16)) b17_0 σ2 N
      | none => none) (fun i σ M => ∃ v8 v9 found t es, σ = [some (.d (LI o)), some (.d (.int w)), some (.d (.int m)), some (.d (LI r)), some (.d (LI L)), some (.d (.int found)), some (.d (TB t)), some (.m 0), v8, v9] ∧ M = [.dct true (KV r L w m es)] ∧ gd w i t ∧ found + rk r L w m (o.length - i) i t (o.drop i) = rk r L w m o.length 0 [] o ∧ es.length + 9 * 2 ^ (o.length - i) ≤ 9 * 2 ^ o.length)
      (xs := (upto L.length).map .int) (σ := [some (.d (LI o)), some (.d (.int w)), some (.d (.int m)), some (.d (LI r)), some (.d (LI L)), some (.d (.int 0)), some (.d (TB [])), some (.m 0), none, none]) (M := [.dct true (KV r L w m [])]) ⟨none, none, 0, [], [], rfl, rfl, gd_nil h1, by simp, by simp⟩ fun i x σ M hx ⟨v8, v9, found, t, es, e1, e2, g1, g2, g3⟩ => by
    obtain ⟨rfl, hi⟩ := upto_get hx
    subst e1 e2
    obtain ⟨d, hd⟩ : ∃ d, o.length - i = d + 1 := ⟨o.length - i - 1, by omega⟩
    have hd2 : o.length - (i + 1) = d := by omega
    have h2d : 2 ^ (d + 1) = 2 ^ d + 2 ^ d := by rw [Nat.pow_succ]; omega
    have p12 := pow12 (n := o.length) o12
    have hpos : 0 < 2 ^ d := Nat.pow_pos (by decide)
    rw [hd] at g2 g3
    have pd : (i : Int) + (d + 1) = L.length := by omega
    have gL := rowAt_get (xs := L) (p := i) (by omega) (by omega)
    have gO := rowAt_get (xs := o) (p := i) (by omega) (by omega)
    have bL := hc.b i (by omega) (by omega)
    have bO := om i (by omega) (by omega)
    have bLO := lo_ge i (by omega) (by omega)
    -- the values
    obtain ⟨σ5, M5, f2, u9, es5, rfl, rfl, q1⟩ := forF_at (step := fun x σ1 N => match put [9] x σ1 with
        | some σ2 => exSs (run T (k + 16)) b17_1 σ2 N
        | none => none) (fun c σ M => ∃ u9 es', σ = [some (.d (LI o)), some (.d (.int w)), some (.d (.int m)), some (.d (LI r)), some (.d (LI L)), some (.d (.int (found + (((span (rowAt L i) (rowAt o i)).take c).map (Fq r L w m d i t)).sum))), some (.d (TB t)), some (.m 0), some (.d (.int i)), u9] ∧ M = [.dct true (KV r L w m es')] ∧ es'.length ≤ es.length + c * 2 ^ d)
        (xs := (span (rowAt L i) (rowAt o i)).map .int) (σ := [some (.d (LI o)), some (.d (.int w)), some (.d (.int m)), some (.d (LI r)), some (.d (LI L)), some (.d (.int found)), some (.d (TB t)), some (.m 0), some (.d (.int i)), v9]) (M := [.dct true (KV r L w m es)]) ⟨v9, es, by simp, rfl, by simp⟩ fun c x σ M hx ⟨u9, es', e1, e2, q1⟩ => by
      obtain ⟨rfl, hs, hlt⟩ := span_at hx
      subst e1 e2
      have c9 : c ≤ 8 := by omega
      have hcm : c * 2 ^ d ≤ 8 * 2 ^ d := Nat.mul_le_mul_right _ c9
      obtain ⟨es2, b2, q2⟩ := fc (v := rowAt L i + c) (es := es') pd (by omega) g1 (by omega)
      refine ⟨_, [.dct true (KV r L w m es2)], ?_, some (.d (.int (rowAt L i + c))), es2, rfl, rfl, by rw [Nat.succ_mul]; omega⟩
      have es := take_snoc hs
      rw [es, List.map_append, List.sum_append, List.map_cons, List.map_nil, List.sum_cons, List.sum_nil, Int.add_zero, ← Int.add_assoc]
      (simp only [b17_1, exSs, exS, ev.eq_1, ev.eq_2, ev.eq_3, ev.eq_4, ev.eq_5, ev.eq_6, ev.eq_7, ev.eq_8, ev.eq_9, ev.eq_10, ev.eq_11, ev.eq_12, ev.eq_13, ev.eq_14, ev.eq_15, ev.eq_16, ev.eq_17, ev.eq_18, ev.eq_19, ev.eq_21, ev.eq_22, ev.eq_23, ev.eq_24, ev.eq_25, ev.eq_26, ev.eq_27, ev.eq_28, ev.eq_29, evs, evO, evB, evC, evi, obO, obL, obI, obP, obS, obLS, obIS, Wl.ret, retB, dat, dats, views, view, startW, fin, put, putAll, setAll, wipeW, List.map_cons, List.map_nil, List.length_cons, List.length_nil, List.cons_append, List.nil_append, Nat.reduceAdd, Nat.reduceSub, Nat.reduceEqDiff, List.replicate_succ, List.replicate_zero, List.getElem?_cons_zero, List.getElem?_cons_succ, List.set_cons_zero, List.set_cons_succ, Option.map_some, len_LI, len_list, add_int, sub_int, mod_int, fdv_int, mul_int, pow_int, lt_int, le_int, gt_int, ge_int, eq_int, ne_int, eq_LI, ne_LI, inn_LI, nin_LI, sli_LI, sub_LI, seq_LI, cmpW_d, is_bool, isn_bool, Bool.not_true, Bool.not_false, beq_self_eq_true, ite_true, if_true, Bool.false_eq_true, if_false, reduceIte, Dw_frz, frz_0, frz_VL, ne_bool, eq_bool, sorted_LI, seq_VL, eq_VL, ne_VL, pair_0, pair_1, len_VL, newL_f, onlyL_LI, mthO_index, max2_int, min2_int, Dw_get, Dw_set, Dw_app, Dw_len, isiW_d, isi_int_int, isi_int_bool, isi_int_list, isi_int_tuple, isi_int_str, isi_int_none, isi_int_LI, isi_int_VL, isi_bool_int, isi_bool_bool, isi_bool_list, isi_bool_tuple, isi_bool_str, isi_bool_none, isi_bool_LI, isi_bool_VL, isi_list_int, isi_list_bool, isi_list_list, isi_list_tuple, isi_list_str, isi_list_none, isi_list_LI, isi_list_VL, isi_tuple_int, isi_tuple_bool, isi_tuple_list, isi_tuple_tuple, isi_tuple_str, isi_tuple_none, isi_tuple_LI, isi_tuple_VL, isi_str_int, isi_str_bool, isi_str_list, isi_str_tuple, isi_str_str, isi_str_none, isi_str_LI, isi_str_VL, decide_true, decide_false, Bool.and_true, Bool.and_false, Bool.true_and, Bool.false_and, Bool.or_true, Bool.or_false, reduceCtorEq, q2]) <;> rfl
    rw [List.length_map, List.take_length] at f2
    rw [List.length_map, span_len] at q1
    have c9 : (rowAt o i - rowAt L i).toNat * 2 ^ d ≤ 9 * 2 ^ d := Nat.mul_le_mul_right _ (by omega)
    have af := fun (M : MH) => after_call (k := k + 15) (M := M) (w := w) (t := t) (b := decide (rowAt o i = rowAt L i)) h1 (by
      unfold gd at g1
      split at g1 <;> omega)
    refine ⟨_, [.dct true (KV r L w m es5)], ?_, some (.d (.int i)), u9, found + ((span (rowAt L i) (rowAt o i)).map (Fq r L w m d i t)).sum, aft w t (decide (rowAt o i = rowAt L i)), es5, rfl, rfl, by
      rw [show ((i + 1 : Nat) : Int) = (i : Int) + 1 by omega]
      exact gd_aft h1 (by omega) g1, ?_, ?_⟩
    · simp only [put]
      show exSs (run T (k + 16)) b17_0 [some (.d (LI o)), some (.d (.int w)), some (.d (.int m)), some (.d (LI r)), some (.d (LI L)), some (.d (.int found)), some (.d (TB t)), some (.m 0), some (.d (.int i)), v9] _ = _
      unfold b17_0
      apply Eq.trans
      · apply exSs_cons
        apply exS_for
        · (simp only [exSs, exS, ev.eq_1, ev.eq_2, ev.eq_3, ev.eq_4, ev.eq_5, ev.eq_6, ev.eq_7, ev.eq_8, ev.eq_9, ev.eq_10, ev.eq_11, ev.eq_12, ev.eq_13, ev.eq_14, ev.eq_15, ev.eq_16, ev.eq_17, ev.eq_18, ev.eq_19, ev.eq_21, ev.eq_22, ev.eq_23, ev.eq_24, ev.eq_25, ev.eq_26, ev.eq_27, ev.eq_28, ev.eq_29, evs, evO, evB, evC, evi, obO, obL, obI, obP, obS, obLS, obIS, Wl.ret, retB, dat, dats, views, view, startW, fin, put, putAll, setAll, wipeW, List.map_cons, List.map_nil, List.length_cons, List.length_nil, List.cons_append, List.nil_append, Nat.reduceAdd, Nat.reduceSub, Nat.reduceEqDiff, List.replicate_succ, List.replicate_zero, List.getElem?_cons_zero, List.getElem?_cons_succ, List.set_cons_zero, List.set_cons_succ, Option.map_some, len_LI, len_list, add_int, sub_int, mod_int, fdv_int, mul_int, pow_int, lt_int, le_int, gt_int, ge_int, eq_int, ne_int, eq_LI, ne_LI, inn_LI, nin_LI, sli_LI, sub_LI, seq_LI, cmpW_d, is_bool, isn_bool, Bool.not_true, Bool.not_false, beq_self_eq_true, ite_true, if_true, Bool.false_eq_true, if_false, reduceIte, Dw_frz, frz_0, frz_VL, ne_bool, eq_bool, sorted_LI, seq_VL, eq_VL, ne_VL, pair_0, pair_1, len_VL, newL_f, onlyL_LI, mthO_index, max2_int, min2_int, Dw_get, Dw_set, Dw_app, Dw_len, isiW_d, isi_int_int, isi_int_bool, isi_int_list, isi_int_tuple, isi_int_str, isi_int_none, isi_int_LI, isi_int_VL, isi_bool_int, isi_bool_bool, isi_bool_list, isi_bool_tuple, isi_bool_str, isi_bool_none, isi_bool_LI, isi_bool_VL, isi_list_int, isi_list_bool, isi_list_list, isi_list_tuple, isi_list_str, isi_list_none, isi_list_LI, isi_list_VL, isi_tuple_int, isi_tuple_bool, isi_tuple_list, isi_tuple_tuple, isi_tuple_str, isi_tuple_none, isi_tuple_LI, isi_tuple_VL, isi_str_int, isi_str_bool, isi_str_list, isi_str_tuple, isi_str_str, isi_str_none, isi_str_LI, isi_str_VL, decide_true, decide_false, Bool.and_true, Bool.and_false, Bool.true_and, Bool.false_and, Bool.or_true, Bool.or_false, reduceCtorEq, gL, gO, rng2 (i := rowAt L i) (j := rowAt o i) (by omega) (by omega)]) <;> rfl
        · exact f2
      apply Eq.trans
      · apply exSs_cons
        (simp only [exSs, exS, ev.eq_1, ev.eq_2, ev.eq_3, ev.eq_4, ev.eq_5, ev.eq_6, ev.eq_7, ev.eq_8, ev.eq_9, ev.eq_10, ev.eq_11, ev.eq_12, ev.eq_13, ev.eq_14, ev.eq_15, ev.eq_16, ev.eq_17, ev.eq_18, ev.eq_19, ev.eq_21, ev.eq_22, ev.eq_23, ev.eq_24, ev.eq_25, ev.eq_26, ev.eq_27, ev.eq_28, ev.eq_29, evs, evO, evB, evC, evi, obO, obL, obI, obP, obS, obLS, obIS, Wl.ret, retB, dat, dats, views, view, startW, fin, put, putAll, setAll, wipeW, List.map_cons, List.map_nil, List.length_cons, List.length_nil, List.cons_append, List.nil_append, Nat.reduceAdd, Nat.reduceSub, Nat.reduceEqDiff, List.replicate_succ, List.replicate_zero, List.getElem?_cons_zero, List.getElem?_cons_succ, List.set_cons_zero, List.set_cons_succ, Option.map_some, len_LI, len_list, add_int, sub_int, mod_int, fdv_int, mul_int, pow_int, lt_int, le_int, gt_int, ge_int, eq_int, ne_int, eq_LI, ne_LI, inn_LI, nin_LI, sli_LI, sub_LI, seq_LI, cmpW_d, is_bool, isn_bool, Bool.not_true, Bool.not_false, beq_self_eq_true, ite_true, if_true, Bool.false_eq_true, if_false, reduceIte, Dw_frz, frz_0, frz_VL, ne_bool, eq_bool, sorted_LI, seq_VL, eq_VL, ne_VL, pair_0, pair_1, len_VL, newL_f, onlyL_LI, mthO_index, max2_int, min2_int, Dw_get, Dw_set, Dw_app, Dw_len, isiW_d, isi_int_int, isi_int_bool, isi_int_list, isi_int_tuple, isi_int_str, isi_int_none, isi_int_LI, isi_int_VL, isi_bool_int, isi_bool_bool, isi_bool_list, isi_bool_tuple, isi_bool_str, isi_bool_none, isi_bool_LI, isi_bool_VL, isi_list_int, isi_list_bool, isi_list_list, isi_list_tuple, isi_list_str, isi_list_none, isi_list_LI, isi_list_VL, isi_tuple_int, isi_tuple_bool, isi_tuple_list, isi_tuple_tuple, isi_tuple_str, isi_tuple_none, isi_tuple_LI, isi_tuple_VL, isi_str_int, isi_str_bool, isi_str_list, isi_str_tuple, isi_str_str, isi_str_none, isi_str_LI, isi_str_VL, decide_true, decide_false, Bool.and_true, Bool.and_false, Bool.true_and, Bool.false_and, Bool.or_true, Bool.or_false, reduceCtorEq, gL, gO, af]) <;> rfl
      simp only [exSs]
    · rw [hd2, ← g2, drop_row (o := o) (i := i) (by omega), rk, show ((i + 1 : Nat) : Int) = (i : Int) + 1 by omega]
      omega
    · rw [hd2]
      omega
  rw [List.length_map, upto_len, show L.length = o.length from ue, Nat.sub_self, List.drop_length] at g2
  have g4 : found = rk r L w m o.length 0 [] o := by
    rw [← g2]
    have : rk r L w m 0 ((o.length : Nat) : Int) t [] = 0 := by rw [rk] <;> intros <;> simp_all
    rw [this]
    omega
  subst g4
  refine call0 (M' := [.dct true (KV r L w m es)]) ?_ rfl
  refine run_ret (fi := i17) rfl rfl ?_
  simp only [i17, startW, List.map_cons, List.map_nil, List.length_cons, List.length_nil, Nat.reduceAdd, Nat.reduceSub, List.replicate_succ, List.replicate_zero, List.cons_append, List.nil_append]
  apply Eq.trans
  · apply exSs_cons
    (simp only [exSs, exS, ev.eq_1, ev.eq_2, ev.eq_3, ev.eq_4, ev.eq_5, ev.eq_6, ev.eq_7, ev.eq_8, ev.eq_9, ev.eq_10, ev.eq_11, ev.eq_12, ev.eq_13, ev.eq_14, ev.eq_15, ev.eq_16, ev.eq_17, ev.eq_18, ev.eq_19, ev.eq_21, ev.eq_22, ev.eq_23, ev.eq_24, ev.eq_25, ev.eq_26, ev.eq_27, ev.eq_28, ev.eq_29, evs, evO, evB, evC, evi, obO, obL, obI, obP, obS, obLS, obIS, Wl.ret, retB, dat, dats, views, view, startW, fin, put, putAll, setAll, wipeW, List.map_cons, List.map_nil, List.length_cons, List.length_nil, List.cons_append, List.nil_append, Nat.reduceAdd, Nat.reduceSub, Nat.reduceEqDiff, List.replicate_succ, List.replicate_zero, List.getElem?_cons_zero, List.getElem?_cons_succ, List.set_cons_zero, List.set_cons_succ, Option.map_some, len_LI, len_list, add_int, sub_int, mod_int, fdv_int, mul_int, pow_int, lt_int, le_int, gt_int, ge_int, eq_int, ne_int, eq_LI, ne_LI, inn_LI, nin_LI, sli_LI, sub_LI, seq_LI, cmpW_d, is_bool, isn_bool, Bool.not_true, Bool.not_false, beq_self_eq_true, ite_true, if_true, Bool.false_eq_true, if_false, reduceIte, Dw_frz, frz_0, frz_VL, ne_bool, eq_bool, sorted_LI, seq_VL, eq_VL, ne_VL, pair_0, pair_1, len_VL, newL_f, onlyL_LI, mthO_index, max2_int, min2_int, Dw_get, Dw_set, Dw_app, Dw_len, isiW_d, isi_int_int, isi_int_bool, isi_int_list, isi_int_tuple, isi_int_str, isi_int_none, isi_int_LI, isi_int_VL, isi_bool_int, isi_bool_bool, isi_bool_list, isi_bool_tuple, isi_bool_str, isi_bool_none, isi_bool_LI, isi_bool_VL, isi_list_int, isi_list_bool, isi_list_list, isi_list_tuple, isi_list_str, isi_list_none, isi_list_LI, isi_list_VL, isi_tuple_int, isi_tuple_bool, isi_tuple_list, isi_tuple_tuple, isi_tuple_str, isi_tuple_none, isi_tuple_LI, isi_tuple_VL, isi_str_int, isi_str_bool, isi_str_list, isi_str_tuple, isi_str_str, isi_str_none, isi_str_LI, isi_str_VL, decide_true, decide_false, Bool.and_true, Bool.and_false, Bool.true_and, Bool.false_and, Bool.or_true, Bool.or_false, reduceCtorEq, cr]) <;> rfl
  apply Eq.trans
  · apply exSs_cons
    (simp only [exSs, exS, ev.eq_1, ev.eq_2, ev.eq_3, ev.eq_4, ev.eq_5, ev.eq_6, ev.eq_7, ev.eq_8, ev.eq_9, ev.eq_10, ev.eq_11, ev.eq_12, ev.eq_13, ev.eq_14, ev.eq_15, ev.eq_16, ev.eq_17, ev.eq_18, ev.eq_19, ev.eq_21, ev.eq_22, ev.eq_23, ev.eq_24, ev.eq_25, ev.eq_26, ev.eq_27, ev.eq_28, ev.eq_29, evs, evO, evB, evC, evi, obO, obL, obI, obP, obS, obLS, obIS, Wl.ret, retB, dat, dats, views, view, startW, fin, put, putAll, setAll, wipeW, List.map_cons, List.map_nil, List.length_cons, List.length_nil, List.cons_append, List.nil_append, Nat.reduceAdd, Nat.reduceSub, Nat.reduceEqDiff, List.replicate_succ, List.replicate_zero, List.getElem?_cons_zero, List.getElem?_cons_succ, List.set_cons_zero, List.set_cons_succ, Option.map_some, len_LI, len_list, add_int, sub_int, mod_int, fdv_int, mul_int, pow_int, lt_int, le_int, gt_int, ge_int, eq_int, ne_int, eq_LI, ne_LI, inn_LI, nin_LI, sli_LI, sub_LI, seq_LI, cmpW_d, is_bool, isn_bool, Bool.not_true, Bool.not_false, beq_self_eq_true, ite_true, if_true, Bool.false_eq_true, if_false, reduceIte, Dw_frz, frz_0, frz_VL, ne_bool, eq_bool, sorted_LI, seq_VL, eq_VL, ne_VL, pair_0, pair_1, len_VL, newL_f, onlyL_LI, mthO_index, max2_int, min2_int, Dw_get, Dw_set, Dw_app, Dw_len, isiW_d, isi_int_int, isi_int_bool, isi_int_list, isi_int_tuple, isi_int_str, isi_int_none, isi_int_LI, isi_int_VL, isi_bool_int, isi_bool_bool, isi_bool_list, isi_bool_tuple, isi_bool_str, isi_bool_none, isi_bool_LI, isi_bool_VL, isi_list_int, isi_list_bool, isi_list_list, isi_list_tuple, isi_list_str, isi_list_none, isi_list_LI, isi_list_VL, isi_tuple_int, isi_tuple_bool, isi_tuple_list, isi_tuple_tuple, isi_tuple_str, isi_tuple_none, isi_tuple_LI, isi_tuple_VL, isi_str_int, isi_str_bool, isi_str_list, isi_str_tuple, isi_str_str, isi_str_none, isi_str_LI, isi_str_VL, decide_true, decide_false, Bool.and_true, Bool.and_false, Bool.true_and, Bool.false_and, Bool.or_true, Bool.or_false, reduceCtorEq, cw]) <;> rfl
  apply Eq.trans
  · apply exSs_cons
    (simp only [exSs, exS, ev.eq_1, ev.eq_2, ev.eq_3, ev.eq_4, ev.eq_5, ev.eq_6, ev.eq_7, ev.eq_8, ev.eq_9, ev.eq_10, ev.eq_11, ev.eq_12, ev.eq_13, ev.eq_14, ev.eq_15, ev.eq_16, ev.eq_17, ev.eq_18, ev.eq_19, ev.eq_21, ev.eq_22, ev.eq_23, ev.eq_24, ev.eq_25, ev.eq_26, ev.eq_27, ev.eq_28, ev.eq_29, evs, evO, evB, evC, evi, obO, obL, obI, obP, obS, obLS, obIS, Wl.ret, retB, dat, dats, views, view, startW, fin, put, putAll, setAll, wipeW, List.map_cons, List.map_nil, List.length_cons, List.length_nil, List.cons_append, List.nil_append, Nat.reduceAdd, Nat.reduceSub, Nat.reduceEqDiff, List.replicate_succ, List.replicate_zero, List.getElem?_cons_zero, List.getElem?_cons_succ, List.set_cons_zero, List.set_cons_succ, Option.map_some, len_LI, len_list, add_int, sub_int, mod_int, fdv_int, mul_int, pow_int, lt_int, le_int, gt_int, ge_int, eq_int, ne_int, eq_LI, ne_LI, inn_LI, nin_LI, sli_LI, sub_LI, seq_LI, cmpW_d, is_bool, isn_bool, Bool.not_true, Bool.not_false, beq_self_eq_true, ite_true, if_true, Bool.false_eq_true, if_false, reduceIte, Dw_frz, frz_0, frz_VL, ne_bool, eq_bool, sorted_LI, seq_VL, eq_VL, ne_VL, pair_0, pair_1, len_VL, newL_f, onlyL_LI, mthO_index, max2_int, min2_int, Dw_get, Dw_set, Dw_app, Dw_len, isiW_d, isi_int_int, isi_int_bool, isi_int_list, isi_int_tuple, isi_int_str, isi_int_none, isi_int_LI, isi_int_VL, isi_bool_int, isi_bool_bool, isi_bool_list, isi_bool_tuple, isi_bool_str, isi_bool_none, isi_bool_LI, isi_bool_VL, isi_list_int, isi_list_bool, isi_list_list, isi_list_tuple, isi_list_str, isi_list_none, isi_list_LI, isi_list_VL, isi_tuple_int, isi_tuple_bool, isi_tuple_list, isi_tuple_tuple, isi_tuple_str, isi_tuple_none, isi_tuple_LI, isi_tuple_VL, isi_str_int, isi_str_bool, isi_str_list, isi_str_tuple, isi_str_str, isi_str_none, isi_str_LI, isi_str_VL, decide_true, decide_false, Bool.and_true, Bool.and_false, Bool.true_and, Bool.false_and, Bool.or_true, Bool.or_false, reduceCtorEq, cm]) <;> rfl
  apply Eq.trans
  · apply exSs_cons
    apply ite_skip
    simp only [exSs, exS, ev.eq_1, ev.eq_2, ev.eq_3, ev.eq_4, ev.eq_5, ev.eq_6, ev.eq_7, ev.eq_8, ev.eq_9, ev.eq_10, ev.eq_11, ev.eq_12, ev.eq_13, ev.eq_14, ev.eq_15, ev.eq_16, ev.eq_17, ev.eq_18, ev.eq_19, ev.eq_21, ev.eq_22, ev.eq_23, ev.eq_24, ev.eq_25, ev.eq_26, ev.eq_27, ev.eq_28, ev.eq_29, evs, evO, evB, evC, evi, obO, obL, obI, obP, obS, obLS, obIS, Wl.ret, retB, dat, dats, views, view, startW, fin, put, putAll, setAll, wipeW, List.map_cons, List.map_nil, List.length_cons, List.length_nil, List.cons_append, List.nil_append, Nat.reduceAdd, Nat.reduceSub, Nat.reduceEqDiff, List.replicate_succ, List.replicate_zero, List.getElem?_cons_zero, List.getElem?_cons_succ, List.set_cons_zero, List.set_cons_succ, Option.map_some, len_LI, len_list, add_int, sub_int, mod_int, fdv_int, mul_int, pow_int, lt_int, le_int, gt_int, ge_int, eq_int, ne_int, eq_LI, ne_LI, inn_LI, nin_LI, sli_LI, sub_LI, seq_LI, cmpW_d, is_bool, isn_bool, Bool.not_true, Bool.not_false, beq_self_eq_true, ite_true, if_true, Bool.false_eq_true, if_false, reduceIte, Dw_frz, frz_0, frz_VL, ne_bool, eq_bool, sorted_LI, seq_VL, eq_VL, ne_VL, pair_0, pair_1, len_VL, newL_f, onlyL_LI, mthO_index, max2_int, min2_int, Dw_get, Dw_set, Dw_app, Dw_len, isiW_d, isi_int_int, isi_int_bool, isi_int_list, isi_int_tuple, isi_int_str, isi_int_none, isi_int_LI, isi_int_VL, isi_bool_int, isi_bool_bool, isi_bool_list, isi_bool_tuple, isi_bool_str, isi_bool_none, isi_bool_LI, isi_bool_VL, isi_list_int, isi_list_bool, isi_list_list, isi_list_tuple, isi_list_str, isi_list_none, isi_list_LI, isi_list_VL, isi_tuple_int, isi_tuple_bool, isi_tuple_list, isi_tuple_tuple, isi_tuple_str, isi_tuple_none, isi_tuple_LI, isi_tuple_VL, isi_str_int, isi_str_bool, isi_str_list, isi_str_tuple, isi_str_str, isi_str_none, isi_str_LI, isi_str_VL, decide_true, decide_false, Bool.and_true, Bool.and_false, Bool.true_and, Bool.false_and, Bool.or_true, Bool.or_false, reduceCtorEq, mx, decide_eq_false mo]
    rfl
  apply Eq.trans
  · apply exSs_cons
    (simp only [exSs, exS, ev.eq_1, ev.eq_2, ev.eq_3, ev.eq_4, ev.eq_5, ev.eq_6, ev.eq_7, ev.eq_8, ev.eq_9, ev.eq_10, ev.eq_11, ev.eq_12, ev.eq_13, ev.eq_14, ev.eq_15, ev.eq_16, ev.eq_17, ev.eq_18, ev.eq_19, ev.eq_21, ev.eq_22, ev.eq_23, ev.eq_24, ev.eq_25, ev.eq_26, ev.eq_27, ev.eq_28, ev.eq_29, evs, evO, evB, evC, evi, obO, obL, obI, obP, obS, obLS, obIS, Wl.ret, retB, dat, dats, views, view, startW, fin, put, putAll, setAll, wipeW, List.map_cons, List.map_nil, List.length_cons, List.length_nil, List.cons_append, List.nil_append, Nat.reduceAdd, Nat.reduceSub, Nat.reduceEqDiff, List.replicate_succ, List.replicate_zero, List.getElem?_cons_zero, List.getElem?_cons_succ, List.set_cons_zero, List.set_cons_succ, Option.map_some, len_LI, len_list, add_int, sub_int, mod_int, fdv_int, mul_int, pow_int, lt_int, le_int, gt_int, ge_int, eq_int, ne_int, eq_LI, ne_LI, inn_LI, nin_LI, sli_LI, sub_LI, seq_LI, cmpW_d, is_bool, isn_bool, Bool.not_true, Bool.not_false, beq_self_eq_true, ite_true, if_true, Bool.false_eq_true, if_false, reduceIte, Dw_frz, frz_0, frz_VL, ne_bool, eq_bool, sorted_LI, seq_VL, eq_VL, ne_VL, pair_0, pair_1, len_VL, newL_f, onlyL_LI, mthO_index, max2_int, min2_int, Dw_get, Dw_set, Dw_app, Dw_len, isiW_d, isi_int_int, isi_int_bool, isi_int_list, isi_int_tuple, isi_int_str, isi_int_none, isi_int_LI, isi_int_VL, isi_bool_int, isi_bool_bool, isi_bool_list, isi_bool_tuple, isi_bool_str, isi_bool_none, isi_bool_LI, isi_bool_VL, isi_list_int, isi_list_bool, isi_list_list, isi_list_tuple, isi_list_str, isi_list_none, isi_list_LI, isi_list_VL, isi_tuple_int, isi_tuple_bool, isi_tuple_list, isi_tuple_tuple, isi_tuple_str, isi_tuple_none, isi_tuple_LI, isi_tuple_VL, isi_str_int, isi_str_bool, isi_str_list, isi_str_tuple, isi_str_str, isi_str_none, isi_str_LI, isi_str_VL, decide_true, decide_false, Bool.and_true, Bool.and_false, Bool.true_and, Bool.false_and, Bool.or_true, Bool.or_false, reduceCtorEq, lo]) <;> rfl
  apply Eq.trans
  · apply exSs_cons
    (simp only [exSs, exS, ev.eq_1, ev.eq_2, ev.eq_3, ev.eq_4, ev.eq_5, ev.eq_6, ev.eq_7, ev.eq_8, ev.eq_9, ev.eq_10, ev.eq_11, ev.eq_12, ev.eq_13, ev.eq_14, ev.eq_15, ev.eq_16, ev.eq_17, ev.eq_18, ev.eq_19, ev.eq_21, ev.eq_22, ev.eq_23, ev.eq_24, ev.eq_25, ev.eq_26, ev.eq_27, ev.eq_28, ev.eq_29, evs, evO, evB, evC, evi, obO, obL, obI, obP, obS, obLS, obIS, Wl.ret, retB, dat, dats, views, view, startW, fin, put, putAll, setAll, wipeW, List.map_cons, List.map_nil, List.length_cons, List.length_nil, List.cons_append, List.nil_append, Nat.reduceAdd, Nat.reduceSub, Nat.reduceEqDiff, List.replicate_succ, List.replicate_zero, List.getElem?_cons_zero, List.getElem?_cons_succ, List.set_cons_zero, List.set_cons_succ, Option.map_some, len_LI, len_list, add_int, sub_int, mod_int, fdv_int, mul_int, pow_int, lt_int, le_int, gt_int, ge_int, eq_int, ne_int, eq_LI, ne_LI, inn_LI, nin_LI, sli_LI, sub_LI, seq_LI, cmpW_d, is_bool, isn_bool, Bool.not_true, Bool.not_false, beq_self_eq_true, ite_true, if_true, Bool.false_eq_true, if_false, reduceIte, Dw_frz, frz_0, frz_VL, ne_bool, eq_bool, sorted_LI, seq_VL, eq_VL, ne_VL, pair_0, pair_1, len_VL, newL_f, onlyL_LI, mthO_index, max2_int, min2_int, Dw_get, Dw_set, Dw_app, Dw_len, isiW_d, isi_int_int, isi_int_bool, isi_int_list, isi_int_tuple, isi_int_str, isi_int_none, isi_int_LI, isi_int_VL, isi_bool_int, isi_bool_bool, isi_bool_list, isi_bool_tuple, isi_bool_str, isi_bool_none, isi_bool_LI, isi_bool_VL, isi_list_int, isi_list_bool, isi_list_list, isi_list_tuple, isi_list_str, isi_list_none, isi_list_LI, isi_list_VL, isi_tuple_int, isi_tuple_bool, isi_tuple_list, isi_tuple_tuple, isi_tuple_str, isi_tuple_none, isi_tuple_LI, isi_tuple_VL, isi_str_int, isi_str_bool, isi_str_list, isi_str_tuple, isi_str_str, isi_str_none, isi_str_LI, isi_str_VL, decide_true, decide_false, Bool.and_true, Bool.and_false, Bool.true_and, Bool.false_and, Bool.or_true, Bool.or_false, reduceCtorEq, up]) <;> rfl
  apply Eq.trans
  · apply exSs_cons
    (simp only [exSs, exS, ev.eq_1, ev.eq_2, ev.eq_3, ev.eq_4, ev.eq_5, ev.eq_6, ev.eq_7, ev.eq_8, ev.eq_9, ev.eq_10, ev.eq_11, ev.eq_12, ev.eq_13, ev.eq_14, ev.eq_15, ev.eq_16, ev.eq_17, ev.eq_18, ev.eq_19, ev.eq_21, ev.eq_22, ev.eq_23, ev.eq_24, ev.eq_25, ev.eq_26, ev.eq_27, ev.eq_28, ev.eq_29, evs, evO, evB, evC, evi, obO, obL, obI, obP, obS, obLS, obIS, Wl.ret, retB, dat, dats, views, view, startW, fin, put, putAll, setAll, wipeW, List.map_cons, List.map_nil, List.length_cons, List.length_nil, List.cons_append, List.nil_append, Nat.reduceAdd, Nat.reduceSub, Nat.reduceEqDiff, List.replicate_succ, List.replicate_zero, List.getElem?_cons_zero, List.getElem?_cons_succ, List.set_cons_zero, List.set_cons_succ, Option.map_some, len_LI, len_list, add_int, sub_int, mod_int, fdv_int, mul_int, pow_int, lt_int, le_int, gt_int, ge_int, eq_int, ne_int, eq_LI, ne_LI, inn_LI, nin_LI, sli_LI, sub_LI, seq_LI, cmpW_d, is_bool, isn_bool, Bool.not_true, Bool.not_false, beq_self_eq_true, ite_true, if_true, Bool.false_eq_true, if_false, reduceIte, Dw_frz, frz_0, frz_VL, ne_bool, eq_bool, sorted_LI, seq_VL, eq_VL, ne_VL, pair_0, pair_1, len_VL, newL_f, onlyL_LI, mthO_index, max2_int, min2_int, Dw_get, Dw_set, Dw_app, Dw_len, isiW_d, isi_int_int, isi_int_bool, isi_int_list, isi_int_tuple, isi_int_str, isi_int_none, isi_int_LI, isi_int_VL, isi_bool_int, isi_bool_bool, isi_bool_list, isi_bool_tuple, isi_bool_str, isi_bool_none, isi_bool_LI, isi_bool_VL, isi_list_int, isi_list_bool, isi_list_list, isi_list_tuple, isi_list_str, isi_list_none, isi_list_LI, isi_list_VL, isi_tuple_int, isi_tuple_bool, isi_tuple_list, isi_tuple_tuple, isi_tuple_str, isi_tuple_none, isi_tuple_LI, isi_tuple_VL, isi_str_int, isi_str_bool, isi_str_list, isi_str_tuple, isi_str_str, isi_str_none, isi_str_LI, isi_str_VL, decide_true, decide_false, Bool.and_true, Bool.and_false, Bool.true_and, Bool.false_and, Bool.or_true, Bool.or_false, reduceCtorEq, k0]) <;> rfl
  apply Eq.trans
  · apply exSs_cons
    apply exS_for
    · (simp only [exSs, exS, ev.eq_1, ev.eq_2, ev.eq_3, ev.eq_4, ev.eq_5, ev.eq_6, ev.eq_7, ev.eq_8, ev.eq_9, ev.eq_10, ev.eq_11, ev.eq_12, ev.eq_13, ev.eq_14, ev.eq_15, ev.eq_16, ev.eq_17, ev.eq_18, ev.eq_19, ev.eq_21, ev.eq_22, ev.eq_23, ev.eq_24, ev.eq_25, ev.eq_26, ev.eq_27, ev.eq_28, ev.eq_29, evs, evO, evB, evC, evi, obO, obL, obI, obP, obS, obLS, obIS, Wl.ret, retB, dat, dats, views, view, startW, fin, put, putAll, setAll, wipeW, List.map_cons, List.map_nil, List.length_cons, List.length_nil, List.cons_append, List.nil_append, Nat.reduceAdd, Nat.reduceSub, Nat.reduceEqDiff, List.replicate_succ, List.replicate_zero, List.getElem?_cons_zero, List.getElem?_cons_succ, List.set_cons_zero, List.set_cons_succ, Option.map_some, len_LI, len_list, add_int, sub_int, mod_int, fdv_int, mul_int, pow_int, lt_int, le_int, gt_int, ge_int, eq_int, ne_int, eq_LI, ne_LI, inn_LI, nin_LI, sli_LI, sub_LI, seq_LI, cmpW_d, is_bool, isn_bool, Bool.not_true, Bool.not_false, beq_self_eq_true, ite_true, if_true, Bool.false_eq_true, if_false, reduceIte, Dw_frz, frz_0, frz_VL, ne_bool, eq_bool, sorted_LI, seq_VL, eq_VL, ne_VL, pair_0, pair_1, len_VL, newL_f, onlyL_LI, mthO_index, max2_int, min2_int, Dw_get, Dw_set, Dw_app, Dw_len, isiW_d, isi_int_int, isi_int_bool, isi_int_list, isi_int_tuple, isi_int_str, isi_int_none, isi_int_LI, isi_int_VL, isi_bool_int, isi_bool_bool, isi_bool_list, isi_bool_tuple, isi_bool_str, isi_bool_none, isi_bool_LI, isi_bool_VL, isi_list_int, isi_list_bool, isi_list_list, isi_list_tuple, isi_list_str, isi_list_none, isi_list_LI, isi_list_VL, isi_tuple_int, isi_tuple_bool, isi_tuple_list, isi_tuple_tuple, isi_tuple_str, isi_tuple_none, isi_tuple_LI, isi_tuple_VL, isi_str_int, isi_str_bool, isi_str_list, isi_str_tuple, isi_str_str, isi_str_none, isi_str_LI, isi_str_VL, decide_true, decide_false, Bool.and_true, Bool.and_false, Bool.true_and, Bool.false_and, Bool.or_true, Bool.or_false, reduceCtorEq, rng1 (j := (L.length : Int)) (by omega), Int.toNat_natCast]) <;> rfl
    · exact f1
  simp only [exSs, exS, ev.eq_1, ev.eq_2, ev.eq_3, ev.eq_4, ev.eq_5, ev.eq_6, ev.eq_7, ev.eq_8, ev.eq_9, ev.eq_10, ev.eq_11, ev.eq_12, ev.eq_13, ev.eq_14, ev.eq_15, ev.eq_16, ev.eq_17, ev.eq_18, ev.eq_19, ev.eq_21, ev.eq_22, ev.eq_23, ev.eq_24, ev.eq_25, ev.eq_26, ev.eq_27, ev.eq_28, ev.eq_29, evs, evO, evB, evC, evi, obO, obL, obI, obP, obS, obLS, obIS, Wl.ret, retB, dat, dats, views, view, startW, fin, put, putAll, setAll, wipeW, List.map_cons, List.map_nil, List.length_cons, List.length_nil, List.cons_append, List.nil_append, Nat.reduceAdd, Nat.reduceSub, Nat.reduceEqDiff, List.replicate_succ, List.replicate_zero, List.getElem?_cons_zero, List.getElem?_cons_succ, List.set_cons_zero, List.set_cons_succ, Option.map_some, len_LI, len_list, add_int, sub_int, mod_int, fdv_int, mul_int, pow_int, lt_int, le_int, gt_int, ge_int, eq_int, ne_int, eq_LI, ne_LI, inn_LI, nin_LI, sli_LI, sub_LI, seq_LI, cmpW_d, is_bool, isn_bool, Bool.not_true, Bool.not_false, beq_self_eq_true, ite_true, if_true, Bool.false_eq_true, if_false, reduceIte, Dw_frz, frz_0, frz_VL, ne_bool, eq_bool, sorted_LI, seq_VL, eq_VL, ne_VL, pair_0, pair_1, len_VL, newL_f, onlyL_LI, mthO_index, max2_int, min2_int, Dw_get, Dw_set, Dw_app, Dw_len, isiW_d, isi_int_int, isi_int_bool, isi_int_list, isi_int_tuple, isi_int_str, isi_int_none, isi_int_LI, isi_int_VL, isi_bool_int, isi_bool_bool, isi_bool_list, isi_bool_tuple, isi_bool_str, isi_bool_none, isi_bool_LI, isi_bool_VL, isi_list_int, isi_list_bool, isi_list_list, isi_list_tuple, isi_list_str, isi_list_none, isi_list_LI, isi_list_VL, isi_tuple_int, isi_tuple_bool, isi_tuple_list, isi_tuple_tuple, isi_tuple_str, isi_tuple_none, isi_tuple_LI, isi_tuple_VL, isi_str_int, isi_str_bool, isi_str_list, isi_str_tuple, isi_str_str, isi_str_none, isi_str_LI, isi_str_VL, decide_true, decide_false, Bool.and_true, Bool.and_false, Bool.true_and, Bool.false_and, Bool.or_true, Bool.or_false, reduceCtorEq]
/-- the rank of an origin is its place -/
theorem rank_is {o : List Int} {w m : Int} (ho : okRow o) (h1 : 1 ≤ w) (h2 : w ≤ o.length) (hb : ∀ v ∈ o, v ≤ m) : o ∈ orig (lowsL o w) w m ∧ 0 ≤ rk (lowsL o w) (upL (lowsL o w) w) w m o.length 0 [] o ∧ (orig (lowsL o w) w m)[(rk (lowsL o w) (upL (lowsL o w) w) w m o.length 0 [] o).toNat]? = some o ∧ (∀ v ∈ upL (lowsL o w) w, 0 ≤ v ∧ v ≤ m) ∧ (upL (lowsL o w) w).length = o.length := by
  have hrk := okRow_lows ho h1 h2
  have rl := lowsL_len o w
  have ul := upL_len (lowsL o w) w
  have e := up_lows h1 h2 (rfl : lowsL o w = lowsL o w)
  have o12 := ho.2.1
  have ou := (okRow_up hrk h1 (by omega) (b := 9) fun v hv => (hrk.2.2 v hv).2).1
  have hmem : o ∈ orig (lowsL o w) w m := orig_mem.mpr ⟨by omega, fun v hv => ⟨(ho.2.2 v hv).1, hb v hv⟩, rfl⟩
  have hbu : ∀ v ∈ upL (lowsL o w) w, 0 ≤ v ∧ v ≤ m := fun v hv => by
    refine ⟨(ou.2.2 v hv).1, ?_⟩
    obtain ⟨i, hi⟩ := List.getElem?_of_mem hv
    have hil := (List.getElem?_eq_some_iff.mp hi).1
    have g := rowAt_get (xs := upL (lowsL o w) w) (p := i) (by omega) (by omega)
    rw [Wl.atI_nat (by omega), Int.toNat_natCast, hi] at g
    have a := up_least (os := o) (p := i) h1 h2 rfl (by omega) (by omega)
    have g2 := rowAt_get (xs := o) (p := i) (by omega) (by omega)
    rw [Wl.atI_nat (by omega)] at g2
    have := hb _ (List.mem_of_getElem? g2)
    rw [Option.some.inj g]
    omega
  have k := rk_orig h1 hrk.1 e hbu hmem
  have le : (upL (lowsL o w) w).length = o.length := by omega
  rw [le] at k
  exact ⟨hmem, k.1, k.2, hbu, le⟩
theorem nodup_at {α : Type} {xs : List α} (h : xs.Nodup) {i j : Nat} {x : α} (hi : xs[i]? = some x) (hj : xs[j]? = some x) : i = j := by
  obtain ⟨l1, g1⟩ := List.getElem?_eq_some_iff.mp hi
  obtain ⟨l2, g2⟩ := List.getElem?_eq_some_iff.mp hj
  exact (List.getElem_inj h).mp (g1.trans g2.symm)
/-- the least one comes first -/
theorem first_least {r : List Int} {w m : Int} (h : okRow r) (h1 : 1 ≤ w) (h2 : w + r.length ≤ 13) (e : lowsL (upL r w) w = r) (hb : ∀ v ∈ upL r w, v ≤ m) : (orig r w m)[0]? = some (upL r w) ∧ rk r (upL r w) w m (upL r w).length 0 [] (upL r w) = 0 := by
  have ul := upL_len r w
  have ou := (okRow_up h h1 h2 (b := 9) fun v hv => (h.2.2 v hv).2).1
  have z : rk r (upL r w) w m (upL r w).length 0 [] (upL r w) = 0 := rk_least _ _ _ _ fun i hi => by rw [Int.zero_add]
  have k := (rk_orig h1 h.1 e (fun v hv => ⟨(ou.2.2 v hv).1, hb v hv⟩) (orig_mem.mpr ⟨ul, fun v hv => ⟨(ou.2.2 v hv).1, hb v hv⟩, e⟩)).2
  rw [z] at k
  exact ⟨k, z⟩
def zw (f : Int → Int → Int) (xs ys : List Int) : List Int := (xs.zip ys).map fun p => f p.1 p.2
def mn2 (a b : Int) : Int := if b < a then b else a
def mx2 (a b : Int) : Int := if b > a then b else a
theorem zw_len {f : Int → Int → Int} {xs ys : List Int} (h : xs.length = ys.length) : (zw f xs ys).length = xs.length := by
  unfold zw
  rw [List.length_map, List.length_zip, ← h, Nat.min_self]
theorem zw_at {f : Int → Int → Int} {xs ys : List Int} {p : Int} (h : xs.length = ys.length) (h0 : 0 ≤ p) (h1 : p < xs.length) : rowAt (zw f xs ys) p = f (rowAt xs p) (rowAt ys p) := by
  have e1 := rowAt_get (xs := xs) (p := p) h0 h1
  have e2 := rowAt_get (xs := ys) (p := p) h0 (by omega)
  rw [Wl.atI_nat h0] at e1 e2
  have e3 : (xs.zip ys)[p.toNat]? = some (rowAt xs p, rowAt ys p) := by
    rw [List.getElem?_zip_eq_some]
    exact ⟨e1, e2⟩
  have e4 : (zw f xs ys)[p.toNat]? = some (f (rowAt xs p) (rowAt ys p)) := by
    unfold zw
    rw [List.getElem?_map, e3]
    rfl
  have e5 := rowAt_get (xs := zw f xs ys) (p := p) h0 (by rw [zw_len h]; exact h1)
  rw [Wl.atI_nat h0, e4] at e5
  exact (Option.some.inj e5).symm
theorem ok_zw {f : Int → Int → Int} {xs ys : List Int} (h : okRow xs) (hl : xs.length = ys.length) (hf : ∀ p : Int, 0 ≤ p → p < xs.length → 0 ≤ f (rowAt xs p) (rowAt ys p) ∧ f (rowAt xs p) (rowAt ys p) ≤ 9) : okRow (zw f xs ys) := by
  have l := zw_len (f := f) hl
  refine ⟨fun z => by rw [z, List.length_nil] at l; have := List.length_pos_iff.mpr h.1; omega, by have := h.2.1; omega, fun v hv => ?_⟩
  obtain ⟨i, hi⟩ := List.getElem?_of_mem hv
  have hil := (List.getElem?_eq_some_iff.mp hi).1
  have g := rowAt_get (xs := zw f xs ys) (p := i) (by omega) (by omega)
  rw [Wl.atI_nat (by omega), Int.toNat_natCast, hi, zw_at hl (by omega) (by omega)] at g
  rw [Option.some.inj g]
  exact hf i (by omega) (by omega)
theorem row_b {xs : List Int} (h : okRow xs) {p : Int} (h0 : 0 ≤ p) (h1 : p < xs.length) : 0 ≤ rowAt xs p ∧ rowAt xs p ≤ 9 := by
  have e := rowAt_get (xs := xs) (p := p) h0 h1
  rw [Wl.atI_nat h0] at e
  exact h.2.2 _ (List.mem_of_getElem? e)
/-- the low row of the lesser values -/
theorem lows_min {xs ys : List Int} {w : Int} (hl : xs.length = ys.length) (h1 : 1 ≤ w) (h2 : w ≤ xs.length) : lowsL (zw mn2 xs ys) w = zw mn2 (lowsL xs w) (lowsL ys w) := by
  have lz := zw_len (f := mn2) hl
  have l1 := lowsL_len xs w
  have l2 := lowsL_len ys w
  have l3 := lowsL_len (zw mn2 xs ys) w
  have hll : (lowsL xs w).length = (lowsL ys w).length := by omega
  have lzz := zw_len (f := mn2) hll
  have mle : ∀ a b : Int, mn2 a b ≤ a ∧ mn2 a b ≤ b ∧ (mn2 a b = a ∨ mn2 a b = b) := fun a b => by
    unfold mn2
    split <;> omega
  refine row_ext (by omega) fun i h0 hi => ?_
  rw [zw_at hll h0 (by omega)]
  obtain ⟨p, p1, p2, q⟩ := low_is (xs := zw mn2 xs ys) (w := w) (i := i) h1 h0 (by omega)
  obtain ⟨p', p1', p2', q'⟩ := low_is (xs := xs) (w := w) (i := i) h1 h0 (by omega)
  obtain ⟨p'', p1'', p2'', q''⟩ := low_is (xs := ys) (w := w) (i := i) h1 h0 (by omega)
  have a1 := low_le (xs := zw mn2 xs ys) (w := w) (i := i) (p := p') h1 h0 (by omega) p1' p2'
  have a2 := low_le (xs := zw mn2 xs ys) (w := w) (i := i) (p := p'') h1 h0 (by omega) p1'' p2''
  have a3 := low_le (xs := xs) (w := w) (i := i) (p := p) h1 h0 (by omega) p1 p2
  have a4 := low_le (xs := ys) (w := w) (i := i) (p := p) h1 h0 (by omega) p1 p2
  rw [zw_at hl (by omega) (by omega)] at q a1 a2
  have m1 := mle (rowAt xs p) (rowAt ys p)
  have m2 := mle (rowAt xs p') (rowAt ys p')
  have m3 := mle (rowAt xs p'') (rowAt ys p'')
  have m4 := mle (rowAt (lowsL xs w) i) (rowAt (lowsL ys w) i)
  omega
theorem zw_self (xs : List Int) : zw mn2 xs xs = xs := by
  refine row_ext (zw_len rfl) fun i h0 hi => ?_
  rw [zw_len rfl] at hi
  rw [zw_at rfl h0 hi]
  unfold mn2
  split <;> rfl
/-- between the least one and an origin lie origins -/
theorem lows_between {L bt o r : List Int} {w : Int} (h1 : 1 ≤ w) (h2 : w ≤ o.length) (hL : L.length = o.length) (hb : bt.length = o.length) (e1 : lowsL L w = r) (e2 : lowsL o w = r) (hlo : ∀ p : Int, 0 ≤ p → p < o.length → rowAt L p ≤ rowAt bt p ∧ rowAt bt p ≤ rowAt o p) : lowsL bt w = r := by
  have l1 := lowsL_len L w
  have l2 := lowsL_len bt w
  refine row_ext (by rw [e1] at l1; omega) fun i h0 hi => ?_
  obtain ⟨p, p1, p2, q⟩ := low_is (xs := bt) (w := w) (i := i) h1 h0 (by omega)
  obtain ⟨p', p1', p2', q'⟩ := low_is (xs := o) (w := w) (i := i) h1 h0 (by omega)
  have a1 := low_le (xs := L) (w := w) (i := i) (p := p) h1 h0 (by omega) p1 p2
  have a2 := low_le (xs := bt) (w := w) (i := i) (p := p') h1 h0 (by omega) p1' p2'
  have b1 := hlo p (by omega) (by omega)
  have b2 := hlo p' (by omega) (by omega)
  rw [e1] at a1
  rw [e2] at q'
  omega
theorem zip_ev {cf : CF} {σ : Sl} {M : MH} {ea eb : IE} {xs ys : List Int} {f : Int → Int → Int} {b : BF} (hb : (b = .min2 ∧ f = mn2) ∨ (b = .max2 ∧ f = mx2)) (hσ : σ.length = 18) (ha : ev cf ea σ M = some (.val (.d (LI xs)) M)) (he : ev cf eb σ M = some (.val (.d (LI ys)) M)) (hl : xs.length ≤ 900) :
    ev cf (.lc false [10, 11] (.zip (.cons ea (.cons eb .nil))) [10, 11] .nil (.blt b false (.cons (.var 10) (.cons (.var 11) .nil)))) σ M = some (.val (.d (LI (zw f xs ys))) M) := by
  rw [ev_lcS (xs := (xs.zip ys).map fun p => PyData.tuple [.int p.1, .int p.2]) (ys := (xs.zip ys).map fun p => .int (f p.1 p.2)) (M1 := M) (M2 := M)]
  · unfold zw
    rw [LI_def, List.map_map]
    rfl
  · rw [← zip_ints]
    simp only [evi, evs, ha, he]
    rfl
  · refine lcF_map fun p _ => ?_
    have g10 : ∀ (τ : Sl) (x y : Option W), τ.length = 18 → ((τ.set 10 x).set 11 y)[10]? = some x := fun τ x y h => by
      rw [List.getElem?_set_ne (by decide), List.getElem?_set_self (by omega)]
    have g11 : ∀ (τ : Sl) (x y : Option W), τ.length = 18 → ((τ.set 10 x).set 11 y)[11]? = some y := fun τ x y h => by
      rw [List.getElem?_set_self (by rw [List.length_set]; omega)]
    have wl : (wipeW σ [10, 11]).length = 18 := by
      unfold wipeW wipeW wipeW
      rw [List.length_set, List.length_set, hσ]
    simp only [put, putAll, evC, ev.eq_1, ev.eq_17, evs, g10 _ _ _ wl, g11 _ _ _ wl, obL, views, view]
    rcases hb with ⟨rfl, rfl⟩ | ⟨rfl, rfl⟩
    · simp only [min2_int]
      rfl
    · simp only [max2_int]
      rfl
  · rw [List.length_map, List.length_zip]
    exact cap_of (by omega)
theorem isn_tt : cmpD .isn (.bool true) (.bool true) = some false := rfl
theorem eq_tt (a : Bool) : (a == a) = true := by cases a <;> rfl
theorem holds (ns : List Int) (_ : ns.length ≤ 63) : ∃ M, run T 20 25 [.s ns] [] = some (.val (.d (.bool true)) M) := by
  obtain ⟨n0, hn0, t0⟩ := start_spec (k := 18) ns
  obtain ⟨o, n1, c1, ho, ho11, hn1, t1⟩ := row_call (k := 16) (ns := n0) (c := 0) (L := 11) hn0 (by decide) (by decide)
  have ol := List.length_pos_iff.mpr ho.1
  have o12 := ho.2.1
  obtain ⟨d, n2, c2, d0, d1, hn2, t2⟩ := draw_call (k := 18) (ns := n1) (c := c1) (L := o.length) (R := []) hn1 (by omega) (by omega) rfl
  obtain ⟨w, hw⟩ : ∃ w, 1 + d = w := ⟨_, rfl⟩
  have h1 : 1 ≤ w := by omega
  have h2 : w ≤ o.length := by omega
  obtain ⟨q, n3, c3, t3, hp, hn3⟩ := ev_lc_dr (cf := run T 19) (own := [16]) (it := .seq 0 (.var 2)) (g := [16]) (elt := .blt .min2 false (.cons (.cst (.int 9)) (.cons (.blt .max2 false (.cons (.cst (.int 0)) (.cons (.bin .sub (.bin .add (.var 16) (.call 1 21 (.cons (.var 1) (.cons (.cst (.int 5)) .nil)))) (.cst (.int 2))) .nil))) .nil))) (σ := [some (.s ns), some (.m 1), some (.d (LI o)), some (.d (.int w)), none, none, none, none, none, none, none, none, none, none, none, none, none, none]) (R := []) (P := fun _ b => 0 ≤ b ∧ b ≤ 9) (xs := o) (ns := n2) (c := c2) hn2 (by simp only [exSs, exS, ev.eq_1, ev.eq_2, ev.eq_3, ev.eq_4, ev.eq_5, ev.eq_6, ev.eq_7, ev.eq_8, ev.eq_9, ev.eq_10, ev.eq_11, ev.eq_12, ev.eq_13, ev.eq_14, ev.eq_15, ev.eq_16, ev.eq_17, ev.eq_18, ev.eq_19, ev.eq_21, ev.eq_22, ev.eq_23, ev.eq_24, ev.eq_25, ev.eq_26, ev.eq_27, ev.eq_28, ev.eq_29, evs, evO, evB, evC, evi, obO, obL, obI, obP, obS, obLS, obIS, Wl.ret, retB, dat, dats, views, view, startW, fin, put, putAll, setAll, wipeW, List.map_cons, List.map_nil, List.length_cons, List.length_nil, List.cons_append, List.nil_append, Nat.reduceAdd, Nat.reduceSub, Nat.reduceEqDiff, List.replicate_succ, List.replicate_zero, List.getElem?_cons_zero, List.getElem?_cons_succ, List.set_cons_zero, List.set_cons_succ, Option.map_some, len_LI, len_list, add_int, sub_int, mod_int, fdv_int, mul_int, pow_int, lt_int, le_int, gt_int, ge_int, eq_int, ne_int, eq_LI, ne_LI, inn_LI, nin_LI, sli_LI, sub_LI, seq_LI, cmpW_d, is_bool, isn_bool, Bool.not_true, Bool.not_false, beq_self_eq_true, ite_true, if_true, Bool.false_eq_true, if_false, reduceIte, Dw_frz, frz_0, frz_VL, ne_bool, eq_bool, sorted_LI, seq_VL, eq_VL, ne_VL, pair_0, pair_1, len_VL, newL_f, onlyL_LI, mthO_index, max2_int, min2_int, Dw_get, Dw_set, Dw_app, Dw_len, isiW_d, isi_int_int, isi_int_bool, isi_int_list, isi_int_tuple, isi_int_str, isi_int_none, isi_int_LI, isi_int_VL, isi_bool_int, isi_bool_bool, isi_bool_list, isi_bool_tuple, isi_bool_str, isi_bool_none, isi_bool_LI, isi_bool_VL, isi_list_int, isi_list_bool, isi_list_list, isi_list_tuple, isi_list_str, isi_list_none, isi_list_LI, isi_list_VL, isi_tuple_int, isi_tuple_bool, isi_tuple_list, isi_tuple_tuple, isi_tuple_str, isi_tuple_none, isi_tuple_LI, isi_tuple_VL, isi_str_int, isi_str_bool, isi_str_list, isi_str_tuple, isi_str_str, isi_str_none, isi_str_LI, isi_str_VL, decide_true, decide_false, Bool.and_true, Bool.and_false, Bool.true_and, Bool.false_and, Bool.or_true, Bool.or_false, reduceCtorEq]) (by omega) fun x hx2 ns' c hn => by
    obtain ⟨d, m', e, d0, d1, hm, s⟩ := draw_call (k := 18) (ns := ns') (c := c) (L := 5) (R := []) hn (by decide) (by decide) rfl
    refine ⟨(if (if x + d - 2 > 0 then x + d - 2 else 0) < 9 then (if x + d - 2 > 0 then x + d - 2 else 0) else 9), m', e, _, rfl, ?_, ?_, hm⟩
    · simp only [exSs, exS, ev.eq_1, ev.eq_2, ev.eq_3, ev.eq_4, ev.eq_5, ev.eq_6, ev.eq_7, ev.eq_8, ev.eq_9, ev.eq_10, ev.eq_11, ev.eq_12, ev.eq_13, ev.eq_14, ev.eq_15, ev.eq_16, ev.eq_17, ev.eq_18, ev.eq_19, ev.eq_21, ev.eq_22, ev.eq_23, ev.eq_24, ev.eq_25, ev.eq_26, ev.eq_27, ev.eq_28, ev.eq_29, evs, evO, evB, evC, evi, obO, obL, obI, obP, obS, obLS, obIS, Wl.ret, retB, dat, dats, views, view, startW, fin, put, putAll, setAll, wipeW, List.map_cons, List.map_nil, List.length_cons, List.length_nil, List.cons_append, List.nil_append, Nat.reduceAdd, Nat.reduceSub, Nat.reduceEqDiff, List.replicate_succ, List.replicate_zero, List.getElem?_cons_zero, List.getElem?_cons_succ, List.set_cons_zero, List.set_cons_succ, Option.map_some, len_LI, len_list, add_int, sub_int, mod_int, fdv_int, mul_int, pow_int, lt_int, le_int, gt_int, ge_int, eq_int, ne_int, eq_LI, ne_LI, inn_LI, nin_LI, sli_LI, sub_LI, seq_LI, cmpW_d, is_bool, isn_bool, Bool.not_true, Bool.not_false, beq_self_eq_true, ite_true, if_true, Bool.false_eq_true, if_false, reduceIte, Dw_frz, frz_0, frz_VL, ne_bool, eq_bool, sorted_LI, seq_VL, eq_VL, ne_VL, pair_0, pair_1, len_VL, newL_f, onlyL_LI, mthO_index, max2_int, min2_int, Dw_get, Dw_set, Dw_app, Dw_len, isiW_d, isi_int_int, isi_int_bool, isi_int_list, isi_int_tuple, isi_int_str, isi_int_none, isi_int_LI, isi_int_VL, isi_bool_int, isi_bool_bool, isi_bool_list, isi_bool_tuple, isi_bool_str, isi_bool_none, isi_bool_LI, isi_bool_VL, isi_list_int, isi_list_bool, isi_list_list, isi_list_tuple, isi_list_str, isi_list_none, isi_list_LI, isi_list_VL, isi_tuple_int, isi_tuple_bool, isi_tuple_list, isi_tuple_tuple, isi_tuple_str, isi_tuple_none, isi_tuple_LI, isi_tuple_VL, isi_str_int, isi_str_bool, isi_str_list, isi_str_tuple, isi_str_str, isi_str_none, isi_str_LI, isi_str_VL, decide_true, decide_false, Bool.and_true, Bool.and_false, Bool.true_and, Bool.false_and, Bool.or_true, Bool.or_false, reduceCtorEq, s]
    · constructor <;> split <;> split <;> omega
  have pl := pair_len hp
  have qv : ∀ v ∈ q, 0 ≤ v ∧ v ≤ 9 := fun v hv => by
    obtain ⟨_, _, z⟩ := pair_mem hp hv
    exact z
  have qk : okRow q := ⟨fun z => by rw [z, List.length_nil] at pl; omega, by omega, qv⟩
  obtain ⟨r, hr⟩ : ∃ r, lowsL o w = r := ⟨_, rfl⟩
  have rl : r.length = o.length - w.toNat + 1 := by rw [← hr, lowsL_len]
  have hrk : okRow r := by rw [← hr]; exact okRow_lows ho h1 h2
  have w13 : w + r.length ≤ 13 := by omega
  have e := up_lows h1 h2 hr
  obtain ⟨mo, hmo⟩ : ∃ z, maxI o = z := ⟨_, rfl⟩
  have mo9 : 0 ≤ mo ∧ mo ≤ 9 := by rw [← hmo]; exact ho.2.2 _ (maxI_mem ho.1)
  obtain ⟨k1, k2, k3, k4, k5⟩ := rank_is (m := mo) ho h1 h2 fun v hv => by rw [← hmo]; exact maxI_ge hv
  have fl := (first_least (m := mo) hrk h1 w13 e (by rw [hr] at k4; exact fun v hv => (k4 v hv).2)).2
  have rc := fun (M : MH) => rank_call (k := 2) (M := M) (m := mo) ho h1 h2 mo9 fun v hv => by rw [← hmo]; exact maxI_ge hv
  have c_lo := fun (M : MH) => least_origin_call (k := 13) (M := M) hrk h1 w13 e
  have c_en := fun (ps : List Int) hp hpl (M : MH) => enough_call (k := 13) (M := M) (ps := ps) hrk h1 w13 e hp hpl
  have c_io := fun (os : List Int) (hk : okRow os) (M : MH) => is_origin_call (k := 14) (M := M) (os := os) hk hrk h1 w13
  have c_co := fun (M : MH) => count_call (k := 4) (M := M) (m := mo) hrk h1 w13 mo9
  have ou := (okRow_up hrk h1 w13 (b := 9) fun v hv => (hrk.2.2 v hv).2).1
  have rcL := fun (h2' : w ≤ (upL r w).length) (hb : ∀ v ∈ upL r w, v ≤ mo) (M : MH) => rank_call (k := 2) (M := M) (m := mo) ou h1 h2' mo9 hb
  rw [hr] at k1 k2 k3 k4 k5 rc
  have hge : ∀ p : Int, 0 ≤ p → p < o.length → rowAt (upL r w) p ≤ rowAt o p := fun p p0 p1 => up_least (os := o) h1 h2 hr p0 p1
  obtain ⟨L, hL⟩ : ∃ L, upL r w = L := ⟨_, rfl⟩
  rw [hL] at e ou k4 k5 hge fl k2 k3
  simp only [hL] at c_lo c_en rc rcL
  rw [e] at rcL
  simp only [hL, fl] at rcL
  have c_rL := rcL (by omega) fun v hv => (k4 v hv).2
  -- the rows
  have ql : o.length = q.length := pl
  have bk : okRow (zw mn2 o q) := ok_zw ho ql fun p p0 p1 => by
    have a := row_b ho p0 p1
    have b := row_b qk p0 (by omega)
    unfold mn2
    split <;> omega
  have bl := zw_len (f := mn2) ql
  have Lq : q.length = L.length := by omega
  have uk : okRow (zw mx2 q L) := ok_zw qk Lq fun p p0 p1 => by
    have a := row_b qk p0 p1
    have b := row_b ou p0 (by omega)
    unfold mx2
    split <;> omega
  have ul := zw_len (f := mx2) Lq
  have uge : ∀ p : Int, 0 ≤ p → p < L.length → rowAt L p ≤ rowAt (zw mx2 q L) p := fun p p0 p1 => by
    rw [zw_at Lq p0 (by omega)]
    unfold mx2
    split <;> omega
  obtain ⟨U, hU⟩ : ∃ U, zw mx2 q L = U := ⟨_, rfl⟩
  rw [hU] at uk ul uge
  have Uo : U.length = o.length := by omega
  have mk : okRow (zw mn2 U o) := ok_zw uk Uo fun p p0 p1 => by
    have a := row_b uk p0 p1
    have b := row_b ho p0 (by omega)
    unfold mn2
    split <;> omega
  have ml := zw_len (f := mn2) Uo
  have c_low := fun (xs : List Int) (hk : okRow xs) (hx : w ≤ xs.length) (M : MH) => low_row_call (k := 15) (M := M) (xs := xs) (w := w) hk h1 hx
  have lmin := lows_min (xs := o) (ys := q) (w := w) ql h1 h2
  rw [hr] at lmin
  have c_l1 := c_low o ho h2
  rw [hr] at c_l1
  have c_l2 := c_low q qk (by omega)
  have c_l3 := c_low (zw mn2 o q) bk (by omega)
  rw [lmin] at c_l3
  have c_iU := c_io U uk
  have c_im := c_io (zw mn2 U o) mk
  have c_iL := c_io L ou
  have iL : decide ((L.length : Int) = r.length + w - 1 ∧ lowsL L w = r) = true := decide_eq_true ⟨by omega, e⟩
  rw [iL] at c_iL
  obtain ⟨bU, hbU⟩ : ∃ bU, decide ((U.length : Int) = r.length + w - 1 ∧ lowsL U w = r) = bU := ⟨_, rfl⟩
  rw [hbU] at c_iU
  have im : bU = true → decide (((zw mn2 U o).length : Int) = r.length + w - 1 ∧ lowsL (zw mn2 U o) w = r) = true := fun hb => by
    rw [hb, decide_eq_true_eq] at hbU
    refine decide_eq_true ⟨by omega, ?_⟩
    rw [lows_min Uo h1 (by omega), hbU.2, hr, zw_self]
  have k0 : (0 : Nat) ≤ cap := by decide
  -- rows between
  obtain ⟨σ4, M4, f1, v10, v11, bt, n4, c4, hn4, bl4, bb4, rfl, rfl⟩ := forF_at (step := fun x σ1 N => match put [10, 11] x σ1 with
      | some σ2 => exSs (run T 19) b25_0 σ2 N
      | none => none) (fun i σ M => ∃ v10 v11 bt n c, n ≠ [] ∧ (bt : List Int).length = i ∧ (∀ p : Int, 0 ≤ p → p < i → rowAt L p ≤ rowAt bt p ∧ rowAt bt p ≤ rowAt o p) ∧ σ = [some (.s ns), some (.m 1), some (.d (LI o)), some (.d (.int w)), some (.d (LI q)), some (.d (LI (zw mn2 o q))), some (.d (LI r)), some (.d (LI L)), some (.d (LI U)), some (.m 2), v10, v11, none, none, none, none, none, none] ∧ M = Dw n c [.lst (bt.map fun i => .d (.int i))])
      (xs := (L.zip o).map fun p => PyData.tuple [.int p.1, .int p.2]) (σ := [some (.s ns), some (.m 1), some (.d (LI o)), some (.d (.int w)), some (.d (LI q)), some (.d (LI (zw mn2 o q))), some (.d (LI r)), some (.d (LI L)), some (.d (LI U)), some (.m 2), none, none, none, none, none, none, none, none]) (M := Dw n3 c3 [.lst []]) ⟨none, none, [], n3, c3, hn3, rfl, fun p _ _ => by omega, rfl, rfl⟩ fun i x σ M hx ⟨v10, v11, bt, n, c, hn, bl, bb, e1, e2⟩ => by
    subst e1 e2
    rw [List.getElem?_map] at hx
    cases hz : (L.zip o)[i]? with
    | none =>
      rw [hz] at hx
      cases hx
    | some p =>
      rw [hz] at hx
      cases hx
      obtain ⟨z1, z2⟩ := List.getElem?_zip_eq_some.mp hz
      have il := (List.getElem?_eq_some_iff.mp z2).1
      have g1 := rowAt_get (xs := L) (p := i) (by omega) (by omega)
      have g2 := rowAt_get (xs := o) (p := i) (by omega) (by omega)
      rw [Wl.atI_nat (by omega), Int.toNat_natCast] at g1 g2
      rw [g1] at z1
      rw [g2] at z2
      have a1 := Option.some.inj z1
      have a2 := Option.some.inj z2
      have a3 := hge i (by omega) (by omega)
      have a4 := row_b ho (p := i) (by omega) (by omega)
      have a5 := row_b ou (p := i) (by omega) (by omega)
      obtain ⟨d, n', c', d0, d1, hn', s⟩ := draw_call (k := 18) (ns := n) (c := c) (L := p.2 - p.1 + 1) (R := [.lst (bt.map fun i => .d (.int i))]) hn (by omega) (by omega) (by simp only [List.all_cons, List.all_nil, objOk, refs_ints, Bool.and_true])
      have cp : bt.length < cap := Nat.lt_of_lt_of_le (show bt.length < 1000 by omega) (by decide)
      refine ⟨[some (.s ns), some (.m 1), some (.d (LI o)), some (.d (.int w)), some (.d (LI q)), some (.d (LI (zw mn2 o q))), some (.d (LI r)), some (.d (LI L)), some (.d (LI U)), some (.m 2), some (.d (.int p.1)), some (.d (.int p.2)), none, none, none, none, none, none], Dw n' c' [.lst ((bt.map fun i => .d (.int i)) ++ [.d (.int (p.1 + d))])], ?_, some (.d (.int p.1)), some (.d (.int p.2)), bt ++ [p.1 + d], n', c', hn', by rw [List.length_append, bl]; rfl, fun z z0 z1 => ?_, rfl, by rw [List.map_append]; rfl⟩
      · simp only [b25_0, exSs, exS, ev.eq_1, ev.eq_2, ev.eq_3, ev.eq_4, ev.eq_5, ev.eq_6, ev.eq_7, ev.eq_8, ev.eq_9, ev.eq_10, ev.eq_11, ev.eq_12, ev.eq_13, ev.eq_14, ev.eq_15, ev.eq_16, ev.eq_17, ev.eq_18, ev.eq_19, ev.eq_21, ev.eq_22, ev.eq_23, ev.eq_24, ev.eq_25, ev.eq_26, ev.eq_27, ev.eq_28, ev.eq_29, evs, evO, evB, evC, evi, obO, obL, obI, obP, obS, obLS, obIS, Wl.ret, retB, dat, dats, views, view, startW, fin, put, putAll, setAll, wipeW, List.map_cons, List.map_nil, List.length_cons, List.length_nil, List.cons_append, List.nil_append, Nat.reduceAdd, Nat.reduceSub, Nat.reduceEqDiff, List.replicate_succ, List.replicate_zero, List.getElem?_cons_zero, List.getElem?_cons_succ, List.set_cons_zero, List.set_cons_succ, Option.map_some, len_LI, len_list, add_int, sub_int, mod_int, fdv_int, mul_int, pow_int, lt_int, le_int, gt_int, ge_int, eq_int, ne_int, eq_LI, ne_LI, inn_LI, nin_LI, sli_LI, sub_LI, seq_LI, cmpW_d, is_bool, isn_bool, Bool.not_true, Bool.not_false, beq_self_eq_true, ite_true, if_true, Bool.false_eq_true, if_false, reduceIte, Dw_frz, frz_0, frz_VL, ne_bool, eq_bool, sorted_LI, seq_VL, eq_VL, ne_VL, pair_0, pair_1, len_VL, newL_f, onlyL_LI, mthO_index, max2_int, min2_int, Dw_get, Dw_set, Dw_app, Dw_len, isiW_d, isi_int_int, isi_int_bool, isi_int_list, isi_int_tuple, isi_int_str, isi_int_none, isi_int_LI, isi_int_VL, isi_bool_int, isi_bool_bool, isi_bool_list, isi_bool_tuple, isi_bool_str, isi_bool_none, isi_bool_LI, isi_bool_VL, isi_list_int, isi_list_bool, isi_list_list, isi_list_tuple, isi_list_str, isi_list_none, isi_list_LI, isi_list_VL, isi_tuple_int, isi_tuple_bool, isi_tuple_list, isi_tuple_tuple, isi_tuple_str, isi_tuple_none, isi_tuple_LI, isi_tuple_VL, isi_str_int, isi_str_bool, isi_str_list, isi_str_tuple, isi_str_str, isi_str_none, isi_str_LI, isi_str_VL, decide_true, decide_false, Bool.and_true, Bool.and_false, Bool.true_and, Bool.false_and, Bool.or_true, Bool.or_false, reduceCtorEq, s, List.length_map, cp]
      · by_cases hzi : z < i
        · rw [rowAt_pre z0 (by omega)]
          exact bb z z0 hzi
        · have ez : z = (bt.length : Int) := by omega
          rw [ez, rowAt_mid, bl]
          omega
  rw [List.length_map, List.length_zip] at bl4 bb4
  have bto : bt.length = o.length := by omega
  have btk : okRow bt := ⟨fun z => by rw [z, List.length_nil] at bto; omega, by omega, fun v hv => by
    obtain ⟨i, hi⟩ := List.getElem?_of_mem hv
    have hil := (List.getElem?_eq_some_iff.mp hi).1
    have g := rowAt_get (xs := bt) (p := i) (by omega) (by omega)
    rw [Wl.atI_nat (by omega), Int.toNat_natCast, hi] at g
    have a := bb4 i (by omega) (by omega)
    have b := row_b ho (p := i) (by omega) (by omega)
    have c := row_b ou (p := i) (by omega) (by omega)
    rw [Option.some.inj g]
    omega⟩
  have blow := lows_between (L := L) (bt := bt) (o := o) h1 h2 (by omega) bto e hr fun p p0 p1 => bb4 p p0 (by omega)
  have c_ib := c_io bt btk
  have ib : decide ((bt.length : Int) = r.length + w - 1 ∧ lowsL bt w = r) = true := decide_eq_true ⟨by omega, blow⟩
  rw [ib] at c_ib
  -- the tight places
  obtain ⟨Tp, hTp⟩ : ∃ Tp, (upto o.length).filter (fun p => decide (rowAt U p = rowAt L p)) = Tp := ⟨_, rfl⟩
  have Tm : ∀ p, p ∈ Tp ↔ (0 ≤ p ∧ p < o.length) ∧ rowAt U p = rowAt L p := fun p => by
    rw [← hTp, List.mem_filter, upto_mem, decide_eq_true_eq]
  have Tl : Tp.length ≤ 12 := by
    rw [← hTp]
    have := List.length_filter_le (fun p : Int => decide (rowAt U p = rowAt L p)) (upto o.length)
    rw [upto_len] at this
    omega
  have c_eT := c_en Tp (fun p hp => by have := (Tm p).mp hp; omega) (by omega)
  have eU : enough r L w Tp = bU := by
    rw [← hbU, Bool.eq_iff_iff, enough_iff, decide_eq_true_eq]
    constructor
    · intro h
      refine ⟨by omega, (lows_iff (os := U) h1 (by omega) e (by omega) uge).mpr fun k hk => ?_⟩
      obtain ⟨z, z1, z2⟩ := h k hk
      exact ⟨z, z1, ((Tm z).mp z2).2⟩
    · intro h k hk
      obtain ⟨z, z1, z2⟩ := (lows_iff (os := U) h1 (by omega) e (by omega) uge).mp h.2 k hk
      have f := fit_mem.mp z1
      exact ⟨z, z1, (Tm z).mpr ⟨by omega, z2⟩⟩
  rw [eU] at c_eT
  have lT : ∀ {M : MH}, ev (run T 19) (.lc false [17] (.rng (.cons (.blt .len false (.cons (.var 2) .nil)) .nil)) [17] (.cons (.cmp .eq (.sub (.var 8) (.var 17)) (.sub (.var 7) (.var 17))) .nil) (.var 17)) [some (.s ns), some (.m 1), some (.d (LI o)), some (.d (.int w)), some (.d (LI q)), some (.d (LI (zw mn2 o q))), some (.d (LI r)), some (.d (LI L)), some (.d (LI U)), some (.d (LI bt)), v10, v11, none, none, none, none, none, none] M = some (.val (.d (LI Tp)) M) := by
    intro M
    rw [ev_lcS (xs := (upto o.length).map .int) (ys := Tp.map .int) (M1 := M) (M2 := M)]
    · rfl
    · simp only [exSs, exS, ev.eq_1, ev.eq_2, ev.eq_3, ev.eq_4, ev.eq_5, ev.eq_6, ev.eq_7, ev.eq_8, ev.eq_9, ev.eq_10, ev.eq_11, ev.eq_12, ev.eq_13, ev.eq_14, ev.eq_15, ev.eq_16, ev.eq_17, ev.eq_18, ev.eq_19, ev.eq_21, ev.eq_22, ev.eq_23, ev.eq_24, ev.eq_25, ev.eq_26, ev.eq_27, ev.eq_28, ev.eq_29, evs, evO, evB, evC, evi, obO, obL, obI, obP, obS, obLS, obIS, Wl.ret, retB, dat, dats, views, view, startW, fin, put, putAll, setAll, wipeW, List.map_cons, List.map_nil, List.length_cons, List.length_nil, List.cons_append, List.nil_append, Nat.reduceAdd, Nat.reduceSub, Nat.reduceEqDiff, List.replicate_succ, List.replicate_zero, List.getElem?_cons_zero, List.getElem?_cons_succ, List.set_cons_zero, List.set_cons_succ, Option.map_some, len_LI, len_list, add_int, sub_int, mod_int, fdv_int, mul_int, pow_int, lt_int, le_int, gt_int, ge_int, eq_int, ne_int, eq_LI, ne_LI, inn_LI, nin_LI, sli_LI, sub_LI, seq_LI, cmpW_d, is_bool, isn_bool, Bool.not_true, Bool.not_false, beq_self_eq_true, ite_true, if_true, Bool.false_eq_true, if_false, reduceIte, Dw_frz, frz_0, frz_VL, ne_bool, eq_bool, sorted_LI, seq_VL, eq_VL, ne_VL, pair_0, pair_1, len_VL, newL_f, onlyL_LI, mthO_index, max2_int, min2_int, Dw_get, Dw_set, Dw_app, Dw_len, isiW_d, isi_int_int, isi_int_bool, isi_int_list, isi_int_tuple, isi_int_str, isi_int_none, isi_int_LI, isi_int_VL, isi_bool_int, isi_bool_bool, isi_bool_list, isi_bool_tuple, isi_bool_str, isi_bool_none, isi_bool_LI, isi_bool_VL, isi_list_int, isi_list_bool, isi_list_list, isi_list_tuple, isi_list_str, isi_list_none, isi_list_LI, isi_list_VL, isi_tuple_int, isi_tuple_bool, isi_tuple_list, isi_tuple_tuple, isi_tuple_str, isi_tuple_none, isi_tuple_LI, isi_tuple_VL, isi_str_int, isi_str_bool, isi_str_list, isi_str_tuple, isi_str_str, isi_str_none, isi_str_LI, isi_str_VL, decide_true, decide_false, Bool.and_true, Bool.and_false, Bool.true_and, Bool.false_and, Bool.or_true, Bool.or_false, reduceCtorEq, rng1 (j := (o.length : Int)) (by omega), Int.toNat_natCast]
    · rw [← hTp]
      refine lcF_filter fun p hp => ?_
      rw [upto_mem] at hp
      simp only [exSs, exS, ev.eq_1, ev.eq_2, ev.eq_3, ev.eq_4, ev.eq_5, ev.eq_6, ev.eq_7, ev.eq_8, ev.eq_9, ev.eq_10, ev.eq_11, ev.eq_12, ev.eq_13, ev.eq_14, ev.eq_15, ev.eq_16, ev.eq_17, ev.eq_18, ev.eq_19, ev.eq_21, ev.eq_22, ev.eq_23, ev.eq_24, ev.eq_25, ev.eq_26, ev.eq_27, ev.eq_28, ev.eq_29, evs, evO, evB, evC, evi, obO, obL, obI, obP, obS, obLS, obIS, Wl.ret, retB, dat, dats, views, view, startW, fin, put, putAll, setAll, wipeW, List.map_cons, List.map_nil, List.length_cons, List.length_nil, List.cons_append, List.nil_append, Nat.reduceAdd, Nat.reduceSub, Nat.reduceEqDiff, List.replicate_succ, List.replicate_zero, List.getElem?_cons_zero, List.getElem?_cons_succ, List.set_cons_zero, List.set_cons_succ, Option.map_some, len_LI, len_list, add_int, sub_int, mod_int, fdv_int, mul_int, pow_int, lt_int, le_int, gt_int, ge_int, eq_int, ne_int, eq_LI, ne_LI, inn_LI, nin_LI, sli_LI, sub_LI, seq_LI, cmpW_d, is_bool, isn_bool, Bool.not_true, Bool.not_false, beq_self_eq_true, ite_true, if_true, Bool.false_eq_true, if_false, reduceIte, Dw_frz, frz_0, frz_VL, ne_bool, eq_bool, sorted_LI, seq_VL, eq_VL, ne_VL, pair_0, pair_1, len_VL, newL_f, onlyL_LI, mthO_index, max2_int, min2_int, Dw_get, Dw_set, Dw_app, Dw_len, isiW_d, isi_int_int, isi_int_bool, isi_int_list, isi_int_tuple, isi_int_str, isi_int_none, isi_int_LI, isi_int_VL, isi_bool_int, isi_bool_bool, isi_bool_list, isi_bool_tuple, isi_bool_str, isi_bool_none, isi_bool_LI, isi_bool_VL, isi_list_int, isi_list_bool, isi_list_list, isi_list_tuple, isi_list_str, isi_list_none, isi_list_LI, isi_list_VL, isi_tuple_int, isi_tuple_bool, isi_tuple_list, isi_tuple_tuple, isi_tuple_str, isi_tuple_none, isi_tuple_LI, isi_tuple_VL, isi_str_int, isi_str_bool, isi_str_list, isi_str_tuple, isi_str_str, isi_str_none, isi_str_LI, isi_str_VL, decide_true, decide_false, Bool.and_true, Bool.and_false, Bool.true_and, Bool.false_and, Bool.or_true, Bool.or_false, reduceCtorEq, rowAt_get (xs := U) (p := p) hp.1 (by omega), rowAt_get (xs := L) (p := p) hp.1 (by omega)]
      cases decide (rowAt U p = rowAt L p) <;> rfl
    · rw [List.length_map]
      exact cap_of (by omega)
  obtain ⟨rk1, hrk1⟩ : ∃ z, rk r L w mo o.length 0 [] o = z := ⟨_, rfl⟩
  rw [hrk1] at k2 k3
  simp only [hrk1] at rc
  have rlt := (List.getElem?_eq_some_iff.mp k3).1
  have mxo := max_LI ho.1
  rw [hmo] at mxo
  have fin_lt : decide (rk1 < (((orig r w mo).length : Nat) : Int)) = true := decide_eq_true (by omega)
  refine ⟨Dw n4 c4 [.dead], run_ret (fi := i25) rfl rfl ?_⟩
  simp only [i25, startW, List.map_cons, List.map_nil, List.length_cons, List.length_nil, Nat.reduceAdd, Nat.reduceSub, List.replicate_succ, List.replicate_zero, List.cons_append, List.nil_append]
  apply Eq.trans
  · apply exSs_cons
    (simp only [exSs, exS, ev.eq_1, ev.eq_2, ev.eq_3, ev.eq_4, ev.eq_5, ev.eq_6, ev.eq_7, ev.eq_8, ev.eq_9, ev.eq_10, ev.eq_11, ev.eq_12, ev.eq_13, ev.eq_14, ev.eq_15, ev.eq_16, ev.eq_17, ev.eq_18, ev.eq_19, ev.eq_21, ev.eq_22, ev.eq_23, ev.eq_24, ev.eq_25, ev.eq_26, ev.eq_27, ev.eq_28, ev.eq_29, evs, evO, evB, evC, evi, obO, obL, obI, obP, obS, obLS, obIS, Wl.ret, retB, dat, dats, views, view, startW, fin, put, putAll, setAll, wipeW, List.map_cons, List.map_nil, List.length_cons, List.length_nil, List.cons_append, List.nil_append, Nat.reduceAdd, Nat.reduceSub, Nat.reduceEqDiff, List.replicate_succ, List.replicate_zero, List.getElem?_cons_zero, List.getElem?_cons_succ, List.set_cons_zero, List.set_cons_succ, Option.map_some, len_LI, len_list, add_int, sub_int, mod_int, fdv_int, mul_int, pow_int, lt_int, le_int, gt_int, ge_int, eq_int, ne_int, eq_LI, ne_LI, inn_LI, nin_LI, sli_LI, sub_LI, seq_LI, cmpW_d, is_bool, isn_bool, Bool.not_true, Bool.not_false, beq_self_eq_true, ite_true, if_true, Bool.false_eq_true, if_false, reduceIte, Dw_frz, frz_0, frz_VL, ne_bool, eq_bool, sorted_LI, seq_VL, eq_VL, ne_VL, pair_0, pair_1, len_VL, newL_f, onlyL_LI, mthO_index, max2_int, min2_int, Dw_get, Dw_set, Dw_app, Dw_len, isiW_d, isi_int_int, isi_int_bool, isi_int_list, isi_int_tuple, isi_int_str, isi_int_none, isi_int_LI, isi_int_VL, isi_bool_int, isi_bool_bool, isi_bool_list, isi_bool_tuple, isi_bool_str, isi_bool_none, isi_bool_LI, isi_bool_VL, isi_list_int, isi_list_bool, isi_list_list, isi_list_tuple, isi_list_str, isi_list_none, isi_list_LI, isi_list_VL, isi_tuple_int, isi_tuple_bool, isi_tuple_list, isi_tuple_tuple, isi_tuple_str, isi_tuple_none, isi_tuple_LI, isi_tuple_VL, isi_str_int, isi_str_bool, isi_str_list, isi_str_tuple, isi_str_str, isi_str_none, isi_str_LI, isi_str_VL, decide_true, decide_false, Bool.and_true, Bool.and_false, Bool.true_and, Bool.false_and, Bool.or_true, Bool.or_false, reduceCtorEq, t0]) <;> rfl
  apply Eq.trans
  · apply exSs_cons
    (simp only [exSs, exS, ev.eq_1, ev.eq_2, ev.eq_3, ev.eq_4, ev.eq_5, ev.eq_6, ev.eq_7, ev.eq_8, ev.eq_9, ev.eq_10, ev.eq_11, ev.eq_12, ev.eq_13, ev.eq_14, ev.eq_15, ev.eq_16, ev.eq_17, ev.eq_18, ev.eq_19, ev.eq_21, ev.eq_22, ev.eq_23, ev.eq_24, ev.eq_25, ev.eq_26, ev.eq_27, ev.eq_28, ev.eq_29, evs, evO, evB, evC, evi, obO, obL, obI, obP, obS, obLS, obIS, Wl.ret, retB, dat, dats, views, view, startW, fin, put, putAll, setAll, wipeW, List.map_cons, List.map_nil, List.length_cons, List.length_nil, List.cons_append, List.nil_append, Nat.reduceAdd, Nat.reduceSub, Nat.reduceEqDiff, List.replicate_succ, List.replicate_zero, List.getElem?_cons_zero, List.getElem?_cons_succ, List.set_cons_zero, List.set_cons_succ, Option.map_some, len_LI, len_list, add_int, sub_int, mod_int, fdv_int, mul_int, pow_int, lt_int, le_int, gt_int, ge_int, eq_int, ne_int, eq_LI, ne_LI, inn_LI, nin_LI, sli_LI, sub_LI, seq_LI, cmpW_d, is_bool, isn_bool, Bool.not_true, Bool.not_false, beq_self_eq_true, ite_true, if_true, Bool.false_eq_true, if_false, reduceIte, Dw_frz, frz_0, frz_VL, ne_bool, eq_bool, sorted_LI, seq_VL, eq_VL, ne_VL, pair_0, pair_1, len_VL, newL_f, onlyL_LI, mthO_index, max2_int, min2_int, Dw_get, Dw_set, Dw_app, Dw_len, isiW_d, isi_int_int, isi_int_bool, isi_int_list, isi_int_tuple, isi_int_str, isi_int_none, isi_int_LI, isi_int_VL, isi_bool_int, isi_bool_bool, isi_bool_list, isi_bool_tuple, isi_bool_str, isi_bool_none, isi_bool_LI, isi_bool_VL, isi_list_int, isi_list_bool, isi_list_list, isi_list_tuple, isi_list_str, isi_list_none, isi_list_LI, isi_list_VL, isi_tuple_int, isi_tuple_bool, isi_tuple_list, isi_tuple_tuple, isi_tuple_str, isi_tuple_none, isi_tuple_LI, isi_tuple_VL, isi_str_int, isi_str_bool, isi_str_list, isi_str_tuple, isi_str_str, isi_str_none, isi_str_LI, isi_str_VL, decide_true, decide_false, Bool.and_true, Bool.and_false, Bool.true_and, Bool.false_and, Bool.or_true, Bool.or_false, reduceCtorEq, t1]) <;> rfl
  apply Eq.trans
  · apply exSs_cons
    (simp only [exSs, exS, ev.eq_1, ev.eq_2, ev.eq_3, ev.eq_4, ev.eq_5, ev.eq_6, ev.eq_7, ev.eq_8, ev.eq_9, ev.eq_10, ev.eq_11, ev.eq_12, ev.eq_13, ev.eq_14, ev.eq_15, ev.eq_16, ev.eq_17, ev.eq_18, ev.eq_19, ev.eq_21, ev.eq_22, ev.eq_23, ev.eq_24, ev.eq_25, ev.eq_26, ev.eq_27, ev.eq_28, ev.eq_29, evs, evO, evB, evC, evi, obO, obL, obI, obP, obS, obLS, obIS, Wl.ret, retB, dat, dats, views, view, startW, fin, put, putAll, setAll, wipeW, List.map_cons, List.map_nil, List.length_cons, List.length_nil, List.cons_append, List.nil_append, Nat.reduceAdd, Nat.reduceSub, Nat.reduceEqDiff, List.replicate_succ, List.replicate_zero, List.getElem?_cons_zero, List.getElem?_cons_succ, List.set_cons_zero, List.set_cons_succ, Option.map_some, len_LI, len_list, add_int, sub_int, mod_int, fdv_int, mul_int, pow_int, lt_int, le_int, gt_int, ge_int, eq_int, ne_int, eq_LI, ne_LI, inn_LI, nin_LI, sli_LI, sub_LI, seq_LI, cmpW_d, is_bool, isn_bool, Bool.not_true, Bool.not_false, beq_self_eq_true, ite_true, if_true, Bool.false_eq_true, if_false, reduceIte, Dw_frz, frz_0, frz_VL, ne_bool, eq_bool, sorted_LI, seq_VL, eq_VL, ne_VL, pair_0, pair_1, len_VL, newL_f, onlyL_LI, mthO_index, max2_int, min2_int, Dw_get, Dw_set, Dw_app, Dw_len, isiW_d, isi_int_int, isi_int_bool, isi_int_list, isi_int_tuple, isi_int_str, isi_int_none, isi_int_LI, isi_int_VL, isi_bool_int, isi_bool_bool, isi_bool_list, isi_bool_tuple, isi_bool_str, isi_bool_none, isi_bool_LI, isi_bool_VL, isi_list_int, isi_list_bool, isi_list_list, isi_list_tuple, isi_list_str, isi_list_none, isi_list_LI, isi_list_VL, isi_tuple_int, isi_tuple_bool, isi_tuple_list, isi_tuple_tuple, isi_tuple_str, isi_tuple_none, isi_tuple_LI, isi_tuple_VL, isi_str_int, isi_str_bool, isi_str_list, isi_str_tuple, isi_str_str, isi_str_none, isi_str_LI, isi_str_VL, decide_true, decide_false, Bool.and_true, Bool.and_false, Bool.true_and, Bool.false_and, Bool.or_true, Bool.or_false, reduceCtorEq, t2, hw]) <;> rfl
  apply Eq.trans
  · apply exSs_cons
    rw [exS, t3]
    rfl
  apply Eq.trans
  · apply exSs_cons
    rw [exS, zip_ev (f := mn2) (.inl ⟨rfl, rfl⟩) rfl (by simp only [exSs, exS, ev.eq_1, ev.eq_2, ev.eq_3, ev.eq_4, ev.eq_5, ev.eq_6, ev.eq_7, ev.eq_8, ev.eq_9, ev.eq_10, ev.eq_11, ev.eq_12, ev.eq_13, ev.eq_14, ev.eq_15, ev.eq_16, ev.eq_17, ev.eq_18, ev.eq_19, ev.eq_21, ev.eq_22, ev.eq_23, ev.eq_24, ev.eq_25, ev.eq_26, ev.eq_27, ev.eq_28, ev.eq_29, evs, evO, evB, evC, evi, obO, obL, obI, obP, obS, obLS, obIS, Wl.ret, retB, dat, dats, views, view, startW, fin, put, putAll, setAll, wipeW, List.map_cons, List.map_nil, List.length_cons, List.length_nil, List.cons_append, List.nil_append, Nat.reduceAdd, Nat.reduceSub, Nat.reduceEqDiff, List.replicate_succ, List.replicate_zero, List.getElem?_cons_zero, List.getElem?_cons_succ, List.set_cons_zero, List.set_cons_succ, Option.map_some, len_LI, len_list, add_int, sub_int, mod_int, fdv_int, mul_int, pow_int, lt_int, le_int, gt_int, ge_int, eq_int, ne_int, eq_LI, ne_LI, inn_LI, nin_LI, sli_LI, sub_LI, seq_LI, cmpW_d, is_bool, isn_bool, Bool.not_true, Bool.not_false, beq_self_eq_true, ite_true, if_true, Bool.false_eq_true, if_false, reduceIte, Dw_frz, frz_0, frz_VL, ne_bool, eq_bool, sorted_LI, seq_VL, eq_VL, ne_VL, pair_0, pair_1, len_VL, newL_f, onlyL_LI, mthO_index, max2_int, min2_int, Dw_get, Dw_set, Dw_app, Dw_len, isiW_d, isi_int_int, isi_int_bool, isi_int_list, isi_int_tuple, isi_int_str, isi_int_none, isi_int_LI, isi_int_VL, isi_bool_int, isi_bool_bool, isi_bool_list, isi_bool_tuple, isi_bool_str, isi_bool_none, isi_bool_LI, isi_bool_VL, isi_list_int, isi_list_bool, isi_list_list, isi_list_tuple, isi_list_str, isi_list_none, isi_list_LI, isi_list_VL, isi_tuple_int, isi_tuple_bool, isi_tuple_list, isi_tuple_tuple, isi_tuple_str, isi_tuple_none, isi_tuple_LI, isi_tuple_VL, isi_str_int, isi_str_bool, isi_str_list, isi_str_tuple, isi_str_str, isi_str_none, isi_str_LI, isi_str_VL, decide_true, decide_false, Bool.and_true, Bool.and_false, Bool.true_and, Bool.false_and, Bool.or_true, Bool.or_false, reduceCtorEq]; rfl) (by simp only [exSs, exS, ev.eq_1, ev.eq_2, ev.eq_3, ev.eq_4, ev.eq_5, ev.eq_6, ev.eq_7, ev.eq_8, ev.eq_9, ev.eq_10, ev.eq_11, ev.eq_12, ev.eq_13, ev.eq_14, ev.eq_15, ev.eq_16, ev.eq_17, ev.eq_18, ev.eq_19, ev.eq_21, ev.eq_22, ev.eq_23, ev.eq_24, ev.eq_25, ev.eq_26, ev.eq_27, ev.eq_28, ev.eq_29, evs, evO, evB, evC, evi, obO, obL, obI, obP, obS, obLS, obIS, Wl.ret, retB, dat, dats, views, view, startW, fin, put, putAll, setAll, wipeW, List.map_cons, List.map_nil, List.length_cons, List.length_nil, List.cons_append, List.nil_append, Nat.reduceAdd, Nat.reduceSub, Nat.reduceEqDiff, List.replicate_succ, List.replicate_zero, List.getElem?_cons_zero, List.getElem?_cons_succ, List.set_cons_zero, List.set_cons_succ, Option.map_some, len_LI, len_list, add_int, sub_int, mod_int, fdv_int, mul_int, pow_int, lt_int, le_int, gt_int, ge_int, eq_int, ne_int, eq_LI, ne_LI, inn_LI, nin_LI, sli_LI, sub_LI, seq_LI, cmpW_d, is_bool, isn_bool, Bool.not_true, Bool.not_false, beq_self_eq_true, ite_true, if_true, Bool.false_eq_true, if_false, reduceIte, Dw_frz, frz_0, frz_VL, ne_bool, eq_bool, sorted_LI, seq_VL, eq_VL, ne_VL, pair_0, pair_1, len_VL, newL_f, onlyL_LI, mthO_index, max2_int, min2_int, Dw_get, Dw_set, Dw_app, Dw_len, isiW_d, isi_int_int, isi_int_bool, isi_int_list, isi_int_tuple, isi_int_str, isi_int_none, isi_int_LI, isi_int_VL, isi_bool_int, isi_bool_bool, isi_bool_list, isi_bool_tuple, isi_bool_str, isi_bool_none, isi_bool_LI, isi_bool_VL, isi_list_int, isi_list_bool, isi_list_list, isi_list_tuple, isi_list_str, isi_list_none, isi_list_LI, isi_list_VL, isi_tuple_int, isi_tuple_bool, isi_tuple_list, isi_tuple_tuple, isi_tuple_str, isi_tuple_none, isi_tuple_LI, isi_tuple_VL, isi_str_int, isi_str_bool, isi_str_list, isi_str_tuple, isi_str_str, isi_str_none, isi_str_LI, isi_str_VL, decide_true, decide_false, Bool.and_true, Bool.and_false, Bool.true_and, Bool.false_and, Bool.or_true, Bool.or_false, reduceCtorEq]; rfl) (by omega)]
    rfl
  apply Eq.trans
  · apply exSs_cons
    apply ite_skip
    have zz := zip_ev (cf := run T 19) (f := mn2) (b := .min2) (ea := .call 0 7 (.cons (.var 2) (.cons (.var 3) .nil))) (eb := .call 0 7 (.cons (.var 4) (.cons (.var 3) .nil))) (σ := [some (.s ns), some (.m 1), some (.d (LI o)), some (.d (.int w)), some (.d (LI q)), some (.d (LI (zw mn2 o q))), none, none, none, none, none, none, none, none, none, none, none, none]) (M := Dw n3 c3 []) (xs := r) (ys := lowsL q w) (.inl ⟨rfl, rfl⟩) rfl (by simp only [exSs, exS, ev.eq_1, ev.eq_2, ev.eq_3, ev.eq_4, ev.eq_5, ev.eq_6, ev.eq_7, ev.eq_8, ev.eq_9, ev.eq_10, ev.eq_11, ev.eq_12, ev.eq_13, ev.eq_14, ev.eq_15, ev.eq_16, ev.eq_17, ev.eq_18, ev.eq_19, ev.eq_21, ev.eq_22, ev.eq_23, ev.eq_24, ev.eq_25, ev.eq_26, ev.eq_27, ev.eq_28, ev.eq_29, evs, evO, evB, evC, evi, obO, obL, obI, obP, obS, obLS, obIS, Wl.ret, retB, dat, dats, views, view, startW, fin, put, putAll, setAll, wipeW, List.map_cons, List.map_nil, List.length_cons, List.length_nil, List.cons_append, List.nil_append, Nat.reduceAdd, Nat.reduceSub, Nat.reduceEqDiff, List.replicate_succ, List.replicate_zero, List.getElem?_cons_zero, List.getElem?_cons_succ, List.set_cons_zero, List.set_cons_succ, Option.map_some, len_LI, len_list, add_int, sub_int, mod_int, fdv_int, mul_int, pow_int, lt_int, le_int, gt_int, ge_int, eq_int, ne_int, eq_LI, ne_LI, inn_LI, nin_LI, sli_LI, sub_LI, seq_LI, cmpW_d, is_bool, isn_bool, Bool.not_true, Bool.not_false, beq_self_eq_true, ite_true, if_true, Bool.false_eq_true, if_false, reduceIte, Dw_frz, frz_0, frz_VL, ne_bool, eq_bool, sorted_LI, seq_VL, eq_VL, ne_VL, pair_0, pair_1, len_VL, newL_f, onlyL_LI, mthO_index, max2_int, min2_int, Dw_get, Dw_set, Dw_app, Dw_len, isiW_d, isi_int_int, isi_int_bool, isi_int_list, isi_int_tuple, isi_int_str, isi_int_none, isi_int_LI, isi_int_VL, isi_bool_int, isi_bool_bool, isi_bool_list, isi_bool_tuple, isi_bool_str, isi_bool_none, isi_bool_LI, isi_bool_VL, isi_list_int, isi_list_bool, isi_list_list, isi_list_tuple, isi_list_str, isi_list_none, isi_list_LI, isi_list_VL, isi_tuple_int, isi_tuple_bool, isi_tuple_list, isi_tuple_tuple, isi_tuple_str, isi_tuple_none, isi_tuple_LI, isi_tuple_VL, isi_str_int, isi_str_bool, isi_str_list, isi_str_tuple, isi_str_str, isi_str_none, isi_str_LI, isi_str_VL, decide_true, decide_false, Bool.and_true, Bool.and_false, Bool.true_and, Bool.false_and, Bool.or_true, Bool.or_false, reduceCtorEq, c_l1]) (by simp only [exSs, exS, ev.eq_1, ev.eq_2, ev.eq_3, ev.eq_4, ev.eq_5, ev.eq_6, ev.eq_7, ev.eq_8, ev.eq_9, ev.eq_10, ev.eq_11, ev.eq_12, ev.eq_13, ev.eq_14, ev.eq_15, ev.eq_16, ev.eq_17, ev.eq_18, ev.eq_19, ev.eq_21, ev.eq_22, ev.eq_23, ev.eq_24, ev.eq_25, ev.eq_26, ev.eq_27, ev.eq_28, ev.eq_29, evs, evO, evB, evC, evi, obO, obL, obI, obP, obS, obLS, obIS, Wl.ret, retB, dat, dats, views, view, startW, fin, put, putAll, setAll, wipeW, List.map_cons, List.map_nil, List.length_cons, List.length_nil, List.cons_append, List.nil_append, Nat.reduceAdd, Nat.reduceSub, Nat.reduceEqDiff, List.replicate_succ, List.replicate_zero, List.getElem?_cons_zero, List.getElem?_cons_succ, List.set_cons_zero, List.set_cons_succ, Option.map_some, len_LI, len_list, add_int, sub_int, mod_int, fdv_int, mul_int, pow_int, lt_int, le_int, gt_int, ge_int, eq_int, ne_int, eq_LI, ne_LI, inn_LI, nin_LI, sli_LI, sub_LI, seq_LI, cmpW_d, is_bool, isn_bool, Bool.not_true, Bool.not_false, beq_self_eq_true, ite_true, if_true, Bool.false_eq_true, if_false, reduceIte, Dw_frz, frz_0, frz_VL, ne_bool, eq_bool, sorted_LI, seq_VL, eq_VL, ne_VL, pair_0, pair_1, len_VL, newL_f, onlyL_LI, mthO_index, max2_int, min2_int, Dw_get, Dw_set, Dw_app, Dw_len, isiW_d, isi_int_int, isi_int_bool, isi_int_list, isi_int_tuple, isi_int_str, isi_int_none, isi_int_LI, isi_int_VL, isi_bool_int, isi_bool_bool, isi_bool_list, isi_bool_tuple, isi_bool_str, isi_bool_none, isi_bool_LI, isi_bool_VL, isi_list_int, isi_list_bool, isi_list_list, isi_list_tuple, isi_list_str, isi_list_none, isi_list_LI, isi_list_VL, isi_tuple_int, isi_tuple_bool, isi_tuple_list, isi_tuple_tuple, isi_tuple_str, isi_tuple_none, isi_tuple_LI, isi_tuple_VL, isi_str_int, isi_str_bool, isi_str_list, isi_str_tuple, isi_str_str, isi_str_none, isi_str_LI, isi_str_VL, decide_true, decide_false, Bool.and_true, Bool.and_false, Bool.true_and, Bool.false_and, Bool.or_true, Bool.or_false, reduceCtorEq, c_l2]) (by omega)
    simp only [↓zz, exSs, exS, ev.eq_1, ev.eq_2, ev.eq_3, ev.eq_4, ev.eq_5, ev.eq_6, ev.eq_7, ev.eq_8, ev.eq_9, ev.eq_10, ev.eq_11, ev.eq_12, ev.eq_13, ev.eq_14, ev.eq_15, ev.eq_16, ev.eq_17, ev.eq_18, ev.eq_19, ev.eq_21, ev.eq_22, ev.eq_23, ev.eq_24, ev.eq_25, ev.eq_26, ev.eq_27, ev.eq_28, ev.eq_29, evs, evO, evB, evC, evi, obO, obL, obI, obP, obS, obLS, obIS, Wl.ret, retB, dat, dats, views, view, startW, fin, put, putAll, setAll, wipeW, List.map_cons, List.map_nil, List.length_cons, List.length_nil, List.cons_append, List.nil_append, Nat.reduceAdd, Nat.reduceSub, Nat.reduceEqDiff, List.replicate_succ, List.replicate_zero, List.getElem?_cons_zero, List.getElem?_cons_succ, List.set_cons_zero, List.set_cons_succ, Option.map_some, len_LI, len_list, add_int, sub_int, mod_int, fdv_int, mul_int, pow_int, lt_int, le_int, gt_int, ge_int, eq_int, ne_int, eq_LI, ne_LI, inn_LI, nin_LI, sli_LI, sub_LI, seq_LI, cmpW_d, is_bool, isn_bool, Bool.not_true, Bool.not_false, beq_self_eq_true, ite_true, if_true, Bool.false_eq_true, if_false, reduceIte, Dw_frz, frz_0, frz_VL, ne_bool, eq_bool, sorted_LI, seq_VL, eq_VL, ne_VL, pair_0, pair_1, len_VL, newL_f, onlyL_LI, mthO_index, max2_int, min2_int, Dw_get, Dw_set, Dw_app, Dw_len, isiW_d, isi_int_int, isi_int_bool, isi_int_list, isi_int_tuple, isi_int_str, isi_int_none, isi_int_LI, isi_int_VL, isi_bool_int, isi_bool_bool, isi_bool_list, isi_bool_tuple, isi_bool_str, isi_bool_none, isi_bool_LI, isi_bool_VL, isi_list_int, isi_list_bool, isi_list_list, isi_list_tuple, isi_list_str, isi_list_none, isi_list_LI, isi_list_VL, isi_tuple_int, isi_tuple_bool, isi_tuple_list, isi_tuple_tuple, isi_tuple_str, isi_tuple_none, isi_tuple_LI, isi_tuple_VL, isi_str_int, isi_str_bool, isi_str_list, isi_str_tuple, isi_str_str, isi_str_none, isi_str_LI, isi_str_VL, decide_true, decide_false, Bool.and_true, Bool.and_false, Bool.true_and, Bool.false_and, Bool.or_true, Bool.or_false, reduceCtorEq, c_l3, decide_eq_true]
    rfl
  apply Eq.trans
  · apply exSs_cons
    (simp only [exSs, exS, ev.eq_1, ev.eq_2, ev.eq_3, ev.eq_4, ev.eq_5, ev.eq_6, ev.eq_7, ev.eq_8, ev.eq_9, ev.eq_10, ev.eq_11, ev.eq_12, ev.eq_13, ev.eq_14, ev.eq_15, ev.eq_16, ev.eq_17, ev.eq_18, ev.eq_19, ev.eq_21, ev.eq_22, ev.eq_23, ev.eq_24, ev.eq_25, ev.eq_26, ev.eq_27, ev.eq_28, ev.eq_29, evs, evO, evB, evC, evi, obO, obL, obI, obP, obS, obLS, obIS, Wl.ret, retB, dat, dats, views, view, startW, fin, put, putAll, setAll, wipeW, List.map_cons, List.map_nil, List.length_cons, List.length_nil, List.cons_append, List.nil_append, Nat.reduceAdd, Nat.reduceSub, Nat.reduceEqDiff, List.replicate_succ, List.replicate_zero, List.getElem?_cons_zero, List.getElem?_cons_succ, List.set_cons_zero, List.set_cons_succ, Option.map_some, len_LI, len_list, add_int, sub_int, mod_int, fdv_int, mul_int, pow_int, lt_int, le_int, gt_int, ge_int, eq_int, ne_int, eq_LI, ne_LI, inn_LI, nin_LI, sli_LI, sub_LI, seq_LI, cmpW_d, is_bool, isn_bool, Bool.not_true, Bool.not_false, beq_self_eq_true, ite_true, if_true, Bool.false_eq_true, if_false, reduceIte, Dw_frz, frz_0, frz_VL, ne_bool, eq_bool, sorted_LI, seq_VL, eq_VL, ne_VL, pair_0, pair_1, len_VL, newL_f, onlyL_LI, mthO_index, max2_int, min2_int, Dw_get, Dw_set, Dw_app, Dw_len, isiW_d, isi_int_int, isi_int_bool, isi_int_list, isi_int_tuple, isi_int_str, isi_int_none, isi_int_LI, isi_int_VL, isi_bool_int, isi_bool_bool, isi_bool_list, isi_bool_tuple, isi_bool_str, isi_bool_none, isi_bool_LI, isi_bool_VL, isi_list_int, isi_list_bool, isi_list_list, isi_list_tuple, isi_list_str, isi_list_none, isi_list_LI, isi_list_VL, isi_tuple_int, isi_tuple_bool, isi_tuple_list, isi_tuple_tuple, isi_tuple_str, isi_tuple_none, isi_tuple_LI, isi_tuple_VL, isi_str_int, isi_str_bool, isi_str_list, isi_str_tuple, isi_str_str, isi_str_none, isi_str_LI, isi_str_VL, decide_true, decide_false, Bool.and_true, Bool.and_false, Bool.true_and, Bool.false_and, Bool.or_true, Bool.or_false, reduceCtorEq, c_l1]) <;> rfl
  apply Eq.trans
  · apply exSs_cons
    (simp only [exSs, exS, ev.eq_1, ev.eq_2, ev.eq_3, ev.eq_4, ev.eq_5, ev.eq_6, ev.eq_7, ev.eq_8, ev.eq_9, ev.eq_10, ev.eq_11, ev.eq_12, ev.eq_13, ev.eq_14, ev.eq_15, ev.eq_16, ev.eq_17, ev.eq_18, ev.eq_19, ev.eq_21, ev.eq_22, ev.eq_23, ev.eq_24, ev.eq_25, ev.eq_26, ev.eq_27, ev.eq_28, ev.eq_29, evs, evO, evB, evC, evi, obO, obL, obI, obP, obS, obLS, obIS, Wl.ret, retB, dat, dats, views, view, startW, fin, put, putAll, setAll, wipeW, List.map_cons, List.map_nil, List.length_cons, List.length_nil, List.cons_append, List.nil_append, Nat.reduceAdd, Nat.reduceSub, Nat.reduceEqDiff, List.replicate_succ, List.replicate_zero, List.getElem?_cons_zero, List.getElem?_cons_succ, List.set_cons_zero, List.set_cons_succ, Option.map_some, len_LI, len_list, add_int, sub_int, mod_int, fdv_int, mul_int, pow_int, lt_int, le_int, gt_int, ge_int, eq_int, ne_int, eq_LI, ne_LI, inn_LI, nin_LI, sli_LI, sub_LI, seq_LI, cmpW_d, is_bool, isn_bool, Bool.not_true, Bool.not_false, beq_self_eq_true, ite_true, if_true, Bool.false_eq_true, if_false, reduceIte, Dw_frz, frz_0, frz_VL, ne_bool, eq_bool, sorted_LI, seq_VL, eq_VL, ne_VL, pair_0, pair_1, len_VL, newL_f, onlyL_LI, mthO_index, max2_int, min2_int, Dw_get, Dw_set, Dw_app, Dw_len, isiW_d, isi_int_int, isi_int_bool, isi_int_list, isi_int_tuple, isi_int_str, isi_int_none, isi_int_LI, isi_int_VL, isi_bool_int, isi_bool_bool, isi_bool_list, isi_bool_tuple, isi_bool_str, isi_bool_none, isi_bool_LI, isi_bool_VL, isi_list_int, isi_list_bool, isi_list_list, isi_list_tuple, isi_list_str, isi_list_none, isi_list_LI, isi_list_VL, isi_tuple_int, isi_tuple_bool, isi_tuple_list, isi_tuple_tuple, isi_tuple_str, isi_tuple_none, isi_tuple_LI, isi_tuple_VL, isi_str_int, isi_str_bool, isi_str_list, isi_str_tuple, isi_str_str, isi_str_none, isi_str_LI, isi_str_VL, decide_true, decide_false, Bool.and_true, Bool.and_false, Bool.true_and, Bool.false_and, Bool.or_true, Bool.or_false, reduceCtorEq, c_lo]) <;> rfl
  apply Eq.trans
  · apply exSs_cons
    rw [exS, zip_ev (f := mx2) (.inr ⟨rfl, rfl⟩) rfl (by simp only [exSs, exS, ev.eq_1, ev.eq_2, ev.eq_3, ev.eq_4, ev.eq_5, ev.eq_6, ev.eq_7, ev.eq_8, ev.eq_9, ev.eq_10, ev.eq_11, ev.eq_12, ev.eq_13, ev.eq_14, ev.eq_15, ev.eq_16, ev.eq_17, ev.eq_18, ev.eq_19, ev.eq_21, ev.eq_22, ev.eq_23, ev.eq_24, ev.eq_25, ev.eq_26, ev.eq_27, ev.eq_28, ev.eq_29, evs, evO, evB, evC, evi, obO, obL, obI, obP, obS, obLS, obIS, Wl.ret, retB, dat, dats, views, view, startW, fin, put, putAll, setAll, wipeW, List.map_cons, List.map_nil, List.length_cons, List.length_nil, List.cons_append, List.nil_append, Nat.reduceAdd, Nat.reduceSub, Nat.reduceEqDiff, List.replicate_succ, List.replicate_zero, List.getElem?_cons_zero, List.getElem?_cons_succ, List.set_cons_zero, List.set_cons_succ, Option.map_some, len_LI, len_list, add_int, sub_int, mod_int, fdv_int, mul_int, pow_int, lt_int, le_int, gt_int, ge_int, eq_int, ne_int, eq_LI, ne_LI, inn_LI, nin_LI, sli_LI, sub_LI, seq_LI, cmpW_d, is_bool, isn_bool, Bool.not_true, Bool.not_false, beq_self_eq_true, ite_true, if_true, Bool.false_eq_true, if_false, reduceIte, Dw_frz, frz_0, frz_VL, ne_bool, eq_bool, sorted_LI, seq_VL, eq_VL, ne_VL, pair_0, pair_1, len_VL, newL_f, onlyL_LI, mthO_index, max2_int, min2_int, Dw_get, Dw_set, Dw_app, Dw_len, isiW_d, isi_int_int, isi_int_bool, isi_int_list, isi_int_tuple, isi_int_str, isi_int_none, isi_int_LI, isi_int_VL, isi_bool_int, isi_bool_bool, isi_bool_list, isi_bool_tuple, isi_bool_str, isi_bool_none, isi_bool_LI, isi_bool_VL, isi_list_int, isi_list_bool, isi_list_list, isi_list_tuple, isi_list_str, isi_list_none, isi_list_LI, isi_list_VL, isi_tuple_int, isi_tuple_bool, isi_tuple_list, isi_tuple_tuple, isi_tuple_str, isi_tuple_none, isi_tuple_LI, isi_tuple_VL, isi_str_int, isi_str_bool, isi_str_list, isi_str_tuple, isi_str_str, isi_str_none, isi_str_LI, isi_str_VL, decide_true, decide_false, Bool.and_true, Bool.and_false, Bool.true_and, Bool.false_and, Bool.or_true, Bool.or_false, reduceCtorEq]; rfl) (by simp only [exSs, exS, ev.eq_1, ev.eq_2, ev.eq_3, ev.eq_4, ev.eq_5, ev.eq_6, ev.eq_7, ev.eq_8, ev.eq_9, ev.eq_10, ev.eq_11, ev.eq_12, ev.eq_13, ev.eq_14, ev.eq_15, ev.eq_16, ev.eq_17, ev.eq_18, ev.eq_19, ev.eq_21, ev.eq_22, ev.eq_23, ev.eq_24, ev.eq_25, ev.eq_26, ev.eq_27, ev.eq_28, ev.eq_29, evs, evO, evB, evC, evi, obO, obL, obI, obP, obS, obLS, obIS, Wl.ret, retB, dat, dats, views, view, startW, fin, put, putAll, setAll, wipeW, List.map_cons, List.map_nil, List.length_cons, List.length_nil, List.cons_append, List.nil_append, Nat.reduceAdd, Nat.reduceSub, Nat.reduceEqDiff, List.replicate_succ, List.replicate_zero, List.getElem?_cons_zero, List.getElem?_cons_succ, List.set_cons_zero, List.set_cons_succ, Option.map_some, len_LI, len_list, add_int, sub_int, mod_int, fdv_int, mul_int, pow_int, lt_int, le_int, gt_int, ge_int, eq_int, ne_int, eq_LI, ne_LI, inn_LI, nin_LI, sli_LI, sub_LI, seq_LI, cmpW_d, is_bool, isn_bool, Bool.not_true, Bool.not_false, beq_self_eq_true, ite_true, if_true, Bool.false_eq_true, if_false, reduceIte, Dw_frz, frz_0, frz_VL, ne_bool, eq_bool, sorted_LI, seq_VL, eq_VL, ne_VL, pair_0, pair_1, len_VL, newL_f, onlyL_LI, mthO_index, max2_int, min2_int, Dw_get, Dw_set, Dw_app, Dw_len, isiW_d, isi_int_int, isi_int_bool, isi_int_list, isi_int_tuple, isi_int_str, isi_int_none, isi_int_LI, isi_int_VL, isi_bool_int, isi_bool_bool, isi_bool_list, isi_bool_tuple, isi_bool_str, isi_bool_none, isi_bool_LI, isi_bool_VL, isi_list_int, isi_list_bool, isi_list_list, isi_list_tuple, isi_list_str, isi_list_none, isi_list_LI, isi_list_VL, isi_tuple_int, isi_tuple_bool, isi_tuple_list, isi_tuple_tuple, isi_tuple_str, isi_tuple_none, isi_tuple_LI, isi_tuple_VL, isi_str_int, isi_str_bool, isi_str_list, isi_str_tuple, isi_str_str, isi_str_none, isi_str_LI, isi_str_VL, decide_true, decide_false, Bool.and_true, Bool.and_false, Bool.true_and, Bool.false_and, Bool.or_true, Bool.or_false, reduceCtorEq]; rfl) (by omega), hU]
    rfl
  apply Eq.trans
  · apply exSs_cons
    cases hb : bU with
    | true =>
      rw [hb] at c_iU
      have im' := im hb
      rw [im'] at c_im
      refine ite_t (M1 := Dw n3 c3 []) (by simp only [exSs, exS, ev.eq_1, ev.eq_2, ev.eq_3, ev.eq_4, ev.eq_5, ev.eq_6, ev.eq_7, ev.eq_8, ev.eq_9, ev.eq_10, ev.eq_11, ev.eq_12, ev.eq_13, ev.eq_14, ev.eq_15, ev.eq_16, ev.eq_17, ev.eq_18, ev.eq_19, ev.eq_21, ev.eq_22, ev.eq_23, ev.eq_24, ev.eq_25, ev.eq_26, ev.eq_27, ev.eq_28, ev.eq_29, evs, evO, evB, evC, evi, obO, obL, obI, obP, obS, obLS, obIS, Wl.ret, retB, dat, dats, views, view, startW, fin, put, putAll, setAll, wipeW, List.map_cons, List.map_nil, List.length_cons, List.length_nil, List.cons_append, List.nil_append, Nat.reduceAdd, Nat.reduceSub, Nat.reduceEqDiff, List.replicate_succ, List.replicate_zero, List.getElem?_cons_zero, List.getElem?_cons_succ, List.set_cons_zero, List.set_cons_succ, Option.map_some, len_LI, len_list, add_int, sub_int, mod_int, fdv_int, mul_int, pow_int, lt_int, le_int, gt_int, ge_int, eq_int, ne_int, eq_LI, ne_LI, inn_LI, nin_LI, sli_LI, sub_LI, seq_LI, cmpW_d, is_bool, isn_bool, Bool.not_true, Bool.not_false, beq_self_eq_true, ite_true, if_true, Bool.false_eq_true, if_false, reduceIte, Dw_frz, frz_0, frz_VL, ne_bool, eq_bool, sorted_LI, seq_VL, eq_VL, ne_VL, pair_0, pair_1, len_VL, newL_f, onlyL_LI, mthO_index, max2_int, min2_int, Dw_get, Dw_set, Dw_app, Dw_len, isiW_d, isi_int_int, isi_int_bool, isi_int_list, isi_int_tuple, isi_int_str, isi_int_none, isi_int_LI, isi_int_VL, isi_bool_int, isi_bool_bool, isi_bool_list, isi_bool_tuple, isi_bool_str, isi_bool_none, isi_bool_LI, isi_bool_VL, isi_list_int, isi_list_bool, isi_list_list, isi_list_tuple, isi_list_str, isi_list_none, isi_list_LI, isi_list_VL, isi_tuple_int, isi_tuple_bool, isi_tuple_list, isi_tuple_tuple, isi_tuple_str, isi_tuple_none, isi_tuple_LI, isi_tuple_VL, isi_str_int, isi_str_bool, isi_str_list, isi_str_tuple, isi_str_str, isi_str_none, isi_str_LI, isi_str_VL, decide_true, decide_false, Bool.and_true, Bool.and_false, Bool.true_and, Bool.false_and, Bool.or_true, Bool.or_false, reduceCtorEq, c_iU, is_bool, decide_true]) ?_
      apply Eq.trans
      · apply exSs_cons
        apply ite_skip
        have zz := zip_ev (cf := run T 19) (f := mn2) (b := .min2) (ea := .var 8) (eb := .var 2) (σ := [some (.s ns), some (.m 1), some (.d (LI o)), some (.d (.int w)), some (.d (LI q)), some (.d (LI (zw mn2 o q))), some (.d (LI r)), some (.d (LI L)), some (.d (LI U)), none, none, none, none, none, none, none, none, none]) (M := Dw n3 c3 []) (xs := U) (ys := o) (.inl ⟨rfl, rfl⟩) rfl (by simp only [exSs, exS, ev.eq_1, ev.eq_2, ev.eq_3, ev.eq_4, ev.eq_5, ev.eq_6, ev.eq_7, ev.eq_8, ev.eq_9, ev.eq_10, ev.eq_11, ev.eq_12, ev.eq_13, ev.eq_14, ev.eq_15, ev.eq_16, ev.eq_17, ev.eq_18, ev.eq_19, ev.eq_21, ev.eq_22, ev.eq_23, ev.eq_24, ev.eq_25, ev.eq_26, ev.eq_27, ev.eq_28, ev.eq_29, evs, evO, evB, evC, evi, obO, obL, obI, obP, obS, obLS, obIS, Wl.ret, retB, dat, dats, views, view, startW, fin, put, putAll, setAll, wipeW, List.map_cons, List.map_nil, List.length_cons, List.length_nil, List.cons_append, List.nil_append, Nat.reduceAdd, Nat.reduceSub, Nat.reduceEqDiff, List.replicate_succ, List.replicate_zero, List.getElem?_cons_zero, List.getElem?_cons_succ, List.set_cons_zero, List.set_cons_succ, Option.map_some, len_LI, len_list, add_int, sub_int, mod_int, fdv_int, mul_int, pow_int, lt_int, le_int, gt_int, ge_int, eq_int, ne_int, eq_LI, ne_LI, inn_LI, nin_LI, sli_LI, sub_LI, seq_LI, cmpW_d, is_bool, isn_bool, Bool.not_true, Bool.not_false, beq_self_eq_true, ite_true, if_true, Bool.false_eq_true, if_false, reduceIte, Dw_frz, frz_0, frz_VL, ne_bool, eq_bool, sorted_LI, seq_VL, eq_VL, ne_VL, pair_0, pair_1, len_VL, newL_f, onlyL_LI, mthO_index, max2_int, min2_int, Dw_get, Dw_set, Dw_app, Dw_len, isiW_d, isi_int_int, isi_int_bool, isi_int_list, isi_int_tuple, isi_int_str, isi_int_none, isi_int_LI, isi_int_VL, isi_bool_int, isi_bool_bool, isi_bool_list, isi_bool_tuple, isi_bool_str, isi_bool_none, isi_bool_LI, isi_bool_VL, isi_list_int, isi_list_bool, isi_list_list, isi_list_tuple, isi_list_str, isi_list_none, isi_list_LI, isi_list_VL, isi_tuple_int, isi_tuple_bool, isi_tuple_list, isi_tuple_tuple, isi_tuple_str, isi_tuple_none, isi_tuple_LI, isi_tuple_VL, isi_str_int, isi_str_bool, isi_str_list, isi_str_tuple, isi_str_str, isi_str_none, isi_str_LI, isi_str_VL, decide_true, decide_false, Bool.and_true, Bool.and_false, Bool.true_and, Bool.false_and, Bool.or_true, Bool.or_false, reduceCtorEq]) (by simp only [exSs, exS, ev.eq_1, ev.eq_2, ev.eq_3, ev.eq_4, ev.eq_5, ev.eq_6, ev.eq_7, ev.eq_8, ev.eq_9, ev.eq_10, ev.eq_11, ev.eq_12, ev.eq_13, ev.eq_14, ev.eq_15, ev.eq_16, ev.eq_17, ev.eq_18, ev.eq_19, ev.eq_21, ev.eq_22, ev.eq_23, ev.eq_24, ev.eq_25, ev.eq_26, ev.eq_27, ev.eq_28, ev.eq_29, evs, evO, evB, evC, evi, obO, obL, obI, obP, obS, obLS, obIS, Wl.ret, retB, dat, dats, views, view, startW, fin, put, putAll, setAll, wipeW, List.map_cons, List.map_nil, List.length_cons, List.length_nil, List.cons_append, List.nil_append, Nat.reduceAdd, Nat.reduceSub, Nat.reduceEqDiff, List.replicate_succ, List.replicate_zero, List.getElem?_cons_zero, List.getElem?_cons_succ, List.set_cons_zero, List.set_cons_succ, Option.map_some, len_LI, len_list, add_int, sub_int, mod_int, fdv_int, mul_int, pow_int, lt_int, le_int, gt_int, ge_int, eq_int, ne_int, eq_LI, ne_LI, inn_LI, nin_LI, sli_LI, sub_LI, seq_LI, cmpW_d, is_bool, isn_bool, Bool.not_true, Bool.not_false, beq_self_eq_true, ite_true, if_true, Bool.false_eq_true, if_false, reduceIte, Dw_frz, frz_0, frz_VL, ne_bool, eq_bool, sorted_LI, seq_VL, eq_VL, ne_VL, pair_0, pair_1, len_VL, newL_f, onlyL_LI, mthO_index, max2_int, min2_int, Dw_get, Dw_set, Dw_app, Dw_len, isiW_d, isi_int_int, isi_int_bool, isi_int_list, isi_int_tuple, isi_int_str, isi_int_none, isi_int_LI, isi_int_VL, isi_bool_int, isi_bool_bool, isi_bool_list, isi_bool_tuple, isi_bool_str, isi_bool_none, isi_bool_LI, isi_bool_VL, isi_list_int, isi_list_bool, isi_list_list, isi_list_tuple, isi_list_str, isi_list_none, isi_list_LI, isi_list_VL, isi_tuple_int, isi_tuple_bool, isi_tuple_list, isi_tuple_tuple, isi_tuple_str, isi_tuple_none, isi_tuple_LI, isi_tuple_VL, isi_str_int, isi_str_bool, isi_str_list, isi_str_tuple, isi_str_str, isi_str_none, isi_str_LI, isi_str_VL, decide_true, decide_false, Bool.and_true, Bool.and_false, Bool.true_and, Bool.false_and, Bool.or_true, Bool.or_false, reduceCtorEq]) (by omega)
        simp only [↓zz, exSs, exS, ev.eq_1, ev.eq_2, ev.eq_3, ev.eq_4, ev.eq_5, ev.eq_6, ev.eq_7, ev.eq_8, ev.eq_9, ev.eq_10, ev.eq_11, ev.eq_12, ev.eq_13, ev.eq_14, ev.eq_15, ev.eq_16, ev.eq_17, ev.eq_18, ev.eq_19, ev.eq_21, ev.eq_22, ev.eq_23, ev.eq_24, ev.eq_25, ev.eq_26, ev.eq_27, ev.eq_28, ev.eq_29, evs, evO, evB, evC, evi, obO, obL, obI, obP, obS, obLS, obIS, Wl.ret, retB, dat, dats, views, view, startW, fin, put, putAll, setAll, wipeW, List.map_cons, List.map_nil, List.length_cons, List.length_nil, List.cons_append, List.nil_append, Nat.reduceAdd, Nat.reduceSub, Nat.reduceEqDiff, List.replicate_succ, List.replicate_zero, List.getElem?_cons_zero, List.getElem?_cons_succ, List.set_cons_zero, List.set_cons_succ, Option.map_some, len_LI, len_list, add_int, sub_int, mod_int, fdv_int, mul_int, pow_int, lt_int, le_int, gt_int, ge_int, eq_int, ne_int, eq_LI, ne_LI, inn_LI, nin_LI, sli_LI, sub_LI, seq_LI, cmpW_d, is_bool, isn_bool, Bool.not_true, Bool.not_false, beq_self_eq_true, ite_true, if_true, Bool.false_eq_true, if_false, reduceIte, Dw_frz, frz_0, frz_VL, ne_bool, eq_bool, sorted_LI, seq_VL, eq_VL, ne_VL, pair_0, pair_1, len_VL, newL_f, onlyL_LI, mthO_index, max2_int, min2_int, Dw_get, Dw_set, Dw_app, Dw_len, isiW_d, isi_int_int, isi_int_bool, isi_int_list, isi_int_tuple, isi_int_str, isi_int_none, isi_int_LI, isi_int_VL, isi_bool_int, isi_bool_bool, isi_bool_list, isi_bool_tuple, isi_bool_str, isi_bool_none, isi_bool_LI, isi_bool_VL, isi_list_int, isi_list_bool, isi_list_list, isi_list_tuple, isi_list_str, isi_list_none, isi_list_LI, isi_list_VL, isi_tuple_int, isi_tuple_bool, isi_tuple_list, isi_tuple_tuple, isi_tuple_str, isi_tuple_none, isi_tuple_LI, isi_tuple_VL, isi_str_int, isi_str_bool, isi_str_list, isi_str_tuple, isi_str_str, isi_str_none, isi_str_LI, isi_str_VL, decide_true, decide_false, Bool.and_true, Bool.and_false, Bool.true_and, Bool.false_and, Bool.or_true, Bool.or_false, reduceCtorEq, c_im]
        rfl
      simp only [exSs]
      rfl
    | false =>
      rw [hb] at c_iU
      apply ite_skip
      (simp only [exSs, exS, ev.eq_1, ev.eq_2, ev.eq_3, ev.eq_4, ev.eq_5, ev.eq_6, ev.eq_7, ev.eq_8, ev.eq_9, ev.eq_10, ev.eq_11, ev.eq_12, ev.eq_13, ev.eq_14, ev.eq_15, ev.eq_16, ev.eq_17, ev.eq_18, ev.eq_19, ev.eq_21, ev.eq_22, ev.eq_23, ev.eq_24, ev.eq_25, ev.eq_26, ev.eq_27, ev.eq_28, ev.eq_29, evs, evO, evB, evC, evi, obO, obL, obI, obP, obS, obLS, obIS, Wl.ret, retB, dat, dats, views, view, startW, fin, put, putAll, setAll, wipeW, List.map_cons, List.map_nil, List.length_cons, List.length_nil, List.cons_append, List.nil_append, Nat.reduceAdd, Nat.reduceSub, Nat.reduceEqDiff, List.replicate_succ, List.replicate_zero, List.getElem?_cons_zero, List.getElem?_cons_succ, List.set_cons_zero, List.set_cons_succ, Option.map_some, len_LI, len_list, add_int, sub_int, mod_int, fdv_int, mul_int, pow_int, lt_int, le_int, gt_int, ge_int, eq_int, ne_int, eq_LI, ne_LI, inn_LI, nin_LI, sli_LI, sub_LI, seq_LI, cmpW_d, is_bool, isn_bool, Bool.not_true, Bool.not_false, beq_self_eq_true, ite_true, if_true, Bool.false_eq_true, if_false, reduceIte, Dw_frz, frz_0, frz_VL, ne_bool, eq_bool, sorted_LI, seq_VL, eq_VL, ne_VL, pair_0, pair_1, len_VL, newL_f, onlyL_LI, mthO_index, max2_int, min2_int, Dw_get, Dw_set, Dw_app, Dw_len, isiW_d, isi_int_int, isi_int_bool, isi_int_list, isi_int_tuple, isi_int_str, isi_int_none, isi_int_LI, isi_int_VL, isi_bool_int, isi_bool_bool, isi_bool_list, isi_bool_tuple, isi_bool_str, isi_bool_none, isi_bool_LI, isi_bool_VL, isi_list_int, isi_list_bool, isi_list_list, isi_list_tuple, isi_list_str, isi_list_none, isi_list_LI, isi_list_VL, isi_tuple_int, isi_tuple_bool, isi_tuple_list, isi_tuple_tuple, isi_tuple_str, isi_tuple_none, isi_tuple_LI, isi_tuple_VL, isi_str_int, isi_str_bool, isi_str_list, isi_str_tuple, isi_str_str, isi_str_none, isi_str_LI, isi_str_VL, decide_true, decide_false, Bool.and_true, Bool.and_false, Bool.true_and, Bool.false_and, Bool.or_true, Bool.or_false, reduceCtorEq, c_iU]) <;> rfl
  apply Eq.trans
  · apply exSs_cons
    (simp only [exSs, exS, ev.eq_1, ev.eq_2, ev.eq_3, ev.eq_4, ev.eq_5, ev.eq_6, ev.eq_7, ev.eq_8, ev.eq_9, ev.eq_10, ev.eq_11, ev.eq_12, ev.eq_13, ev.eq_14, ev.eq_15, ev.eq_16, ev.eq_17, ev.eq_18, ev.eq_19, ev.eq_21, ev.eq_22, ev.eq_23, ev.eq_24, ev.eq_25, ev.eq_26, ev.eq_27, ev.eq_28, ev.eq_29, evs, evO, evB, evC, evi, obO, obL, obI, obP, obS, obLS, obIS, Wl.ret, retB, dat, dats, views, view, startW, fin, put, putAll, setAll, wipeW, List.map_cons, List.map_nil, List.length_cons, List.length_nil, List.cons_append, List.nil_append, Nat.reduceAdd, Nat.reduceSub, Nat.reduceEqDiff, List.replicate_succ, List.replicate_zero, List.getElem?_cons_zero, List.getElem?_cons_succ, List.set_cons_zero, List.set_cons_succ, Option.map_some, len_LI, len_list, add_int, sub_int, mod_int, fdv_int, mul_int, pow_int, lt_int, le_int, gt_int, ge_int, eq_int, ne_int, eq_LI, ne_LI, inn_LI, nin_LI, sli_LI, sub_LI, seq_LI, cmpW_d, is_bool, isn_bool, Bool.not_true, Bool.not_false, beq_self_eq_true, ite_true, if_true, Bool.false_eq_true, if_false, reduceIte, Dw_frz, frz_0, frz_VL, ne_bool, eq_bool, sorted_LI, seq_VL, eq_VL, ne_VL, pair_0, pair_1, len_VL, newL_f, onlyL_LI, mthO_index, max2_int, min2_int, Dw_get, Dw_set, Dw_app, Dw_len, isiW_d, isi_int_int, isi_int_bool, isi_int_list, isi_int_tuple, isi_int_str, isi_int_none, isi_int_LI, isi_int_VL, isi_bool_int, isi_bool_bool, isi_bool_list, isi_bool_tuple, isi_bool_str, isi_bool_none, isi_bool_LI, isi_bool_VL, isi_list_int, isi_list_bool, isi_list_list, isi_list_tuple, isi_list_str, isi_list_none, isi_list_LI, isi_list_VL, isi_tuple_int, isi_tuple_bool, isi_tuple_list, isi_tuple_tuple, isi_tuple_str, isi_tuple_none, isi_tuple_LI, isi_tuple_VL, isi_str_int, isi_str_bool, isi_str_list, isi_str_tuple, isi_str_str, isi_str_none, isi_str_LI, isi_str_VL, decide_true, decide_false, Bool.and_true, Bool.and_false, Bool.true_and, Bool.false_and, Bool.or_true, Bool.or_false, reduceCtorEq, k0]) <;> rfl
  apply Eq.trans
  · apply exSs_cons
    apply exS_for (xs := (L.zip o).map fun p => PyData.tuple [.int p.1, .int p.2]) (M1 := Dw n3 c3 [.lst []])
    · rw [← zip_ints]
      (simp only [exSs, exS, ev.eq_1, ev.eq_2, ev.eq_3, ev.eq_4, ev.eq_5, ev.eq_6, ev.eq_7, ev.eq_8, ev.eq_9, ev.eq_10, ev.eq_11, ev.eq_12, ev.eq_13, ev.eq_14, ev.eq_15, ev.eq_16, ev.eq_17, ev.eq_18, ev.eq_19, ev.eq_21, ev.eq_22, ev.eq_23, ev.eq_24, ev.eq_25, ev.eq_26, ev.eq_27, ev.eq_28, ev.eq_29, evs, evO, evB, evC, evi, obO, obL, obI, obP, obS, obLS, obIS, Wl.ret, retB, dat, dats, views, view, startW, fin, put, putAll, setAll, wipeW, List.map_cons, List.map_nil, List.length_cons, List.length_nil, List.cons_append, List.nil_append, Nat.reduceAdd, Nat.reduceSub, Nat.reduceEqDiff, List.replicate_succ, List.replicate_zero, List.getElem?_cons_zero, List.getElem?_cons_succ, List.set_cons_zero, List.set_cons_succ, Option.map_some, len_LI, len_list, add_int, sub_int, mod_int, fdv_int, mul_int, pow_int, lt_int, le_int, gt_int, ge_int, eq_int, ne_int, eq_LI, ne_LI, inn_LI, nin_LI, sli_LI, sub_LI, seq_LI, cmpW_d, is_bool, isn_bool, Bool.not_true, Bool.not_false, beq_self_eq_true, ite_true, if_true, Bool.false_eq_true, if_false, reduceIte, Dw_frz, frz_0, frz_VL, ne_bool, eq_bool, sorted_LI, seq_VL, eq_VL, ne_VL, pair_0, pair_1, len_VL, newL_f, onlyL_LI, mthO_index, max2_int, min2_int, Dw_get, Dw_set, Dw_app, Dw_len, isiW_d, isi_int_int, isi_int_bool, isi_int_list, isi_int_tuple, isi_int_str, isi_int_none, isi_int_LI, isi_int_VL, isi_bool_int, isi_bool_bool, isi_bool_list, isi_bool_tuple, isi_bool_str, isi_bool_none, isi_bool_LI, isi_bool_VL, isi_list_int, isi_list_bool, isi_list_list, isi_list_tuple, isi_list_str, isi_list_none, isi_list_LI, isi_list_VL, isi_tuple_int, isi_tuple_bool, isi_tuple_list, isi_tuple_tuple, isi_tuple_str, isi_tuple_none, isi_tuple_LI, isi_tuple_VL, isi_str_int, isi_str_bool, isi_str_list, isi_str_tuple, isi_str_str, isi_str_none, isi_str_LI, isi_str_VL, decide_true, decide_false, Bool.and_true, Bool.and_false, Bool.true_and, Bool.false_and, Bool.or_true, Bool.or_false, reduceCtorEq]) <;> rfl
    · exact f1
  apply Eq.trans
  · apply exSs_cons
    (simp only [exSs, exS, ev.eq_1, ev.eq_2, ev.eq_3, ev.eq_4, ev.eq_5, ev.eq_6, ev.eq_7, ev.eq_8, ev.eq_9, ev.eq_10, ev.eq_11, ev.eq_12, ev.eq_13, ev.eq_14, ev.eq_15, ev.eq_16, ev.eq_17, ev.eq_18, ev.eq_19, ev.eq_21, ev.eq_22, ev.eq_23, ev.eq_24, ev.eq_25, ev.eq_26, ev.eq_27, ev.eq_28, ev.eq_29, evs, evO, evB, evC, evi, obO, obL, obI, obP, obS, obLS, obIS, Wl.ret, retB, dat, dats, views, view, startW, fin, put, putAll, setAll, wipeW, List.map_cons, List.map_nil, List.length_cons, List.length_nil, List.cons_append, List.nil_append, Nat.reduceAdd, Nat.reduceSub, Nat.reduceEqDiff, List.replicate_succ, List.replicate_zero, List.getElem?_cons_zero, List.getElem?_cons_succ, List.set_cons_zero, List.set_cons_succ, Option.map_some, len_LI, len_list, add_int, sub_int, mod_int, fdv_int, mul_int, pow_int, lt_int, le_int, gt_int, ge_int, eq_int, ne_int, eq_LI, ne_LI, inn_LI, nin_LI, sli_LI, sub_LI, seq_LI, cmpW_d, is_bool, isn_bool, Bool.not_true, Bool.not_false, beq_self_eq_true, ite_true, if_true, Bool.false_eq_true, if_false, reduceIte, Dw_frz, frz_0, frz_VL, ne_bool, eq_bool, sorted_LI, seq_VL, eq_VL, ne_VL, pair_0, pair_1, len_VL, newL_f, onlyL_LI, mthO_index, max2_int, min2_int, Dw_get, Dw_set, Dw_app, Dw_len, isiW_d, isi_int_int, isi_int_bool, isi_int_list, isi_int_tuple, isi_int_str, isi_int_none, isi_int_LI, isi_int_VL, isi_bool_int, isi_bool_bool, isi_bool_list, isi_bool_tuple, isi_bool_str, isi_bool_none, isi_bool_LI, isi_bool_VL, isi_list_int, isi_list_bool, isi_list_list, isi_list_tuple, isi_list_str, isi_list_none, isi_list_LI, isi_list_VL, isi_tuple_int, isi_tuple_bool, isi_tuple_list, isi_tuple_tuple, isi_tuple_str, isi_tuple_none, isi_tuple_LI, isi_tuple_VL, isi_str_int, isi_str_bool, isi_str_list, isi_str_tuple, isi_str_str, isi_str_none, isi_str_LI, isi_str_VL, decide_true, decide_false, Bool.and_true, Bool.and_false, Bool.true_and, Bool.false_and, Bool.or_true, Bool.or_false, reduceCtorEq]) <;> rfl
  apply Eq.trans
  · apply exSs_cons
    apply ite_skip
    simp only [exSs, exS, ev.eq_1, ev.eq_2, ev.eq_3, ev.eq_4, ev.eq_5, ev.eq_6, ev.eq_7, ev.eq_8, ev.eq_9, ev.eq_10, ev.eq_11, ev.eq_12, ev.eq_13, ev.eq_14, ev.eq_15, ev.eq_16, ev.eq_17, ev.eq_18, ev.eq_19, ev.eq_21, ev.eq_22, ev.eq_23, ev.eq_24, ev.eq_25, ev.eq_26, ev.eq_27, ev.eq_28, ev.eq_29, evs, evO, evB, evC, evi, obO, obL, obI, obP, obS, obLS, obIS, Wl.ret, retB, dat, dats, views, view, startW, fin, put, putAll, setAll, wipeW, List.map_cons, List.map_nil, List.length_cons, List.length_nil, List.cons_append, List.nil_append, Nat.reduceAdd, Nat.reduceSub, Nat.reduceEqDiff, List.replicate_succ, List.replicate_zero, List.getElem?_cons_zero, List.getElem?_cons_succ, List.set_cons_zero, List.set_cons_succ, Option.map_some, len_LI, len_list, add_int, sub_int, mod_int, fdv_int, mul_int, pow_int, lt_int, le_int, gt_int, ge_int, eq_int, ne_int, eq_LI, ne_LI, inn_LI, nin_LI, sli_LI, sub_LI, seq_LI, cmpW_d, is_bool, isn_bool, Bool.not_true, Bool.not_false, beq_self_eq_true, ite_true, if_true, Bool.false_eq_true, if_false, reduceIte, Dw_frz, frz_0, frz_VL, ne_bool, eq_bool, sorted_LI, seq_VL, eq_VL, ne_VL, pair_0, pair_1, len_VL, newL_f, onlyL_LI, mthO_index, max2_int, min2_int, Dw_get, Dw_set, Dw_app, Dw_len, isiW_d, isi_int_int, isi_int_bool, isi_int_list, isi_int_tuple, isi_int_str, isi_int_none, isi_int_LI, isi_int_VL, isi_bool_int, isi_bool_bool, isi_bool_list, isi_bool_tuple, isi_bool_str, isi_bool_none, isi_bool_LI, isi_bool_VL, isi_list_int, isi_list_bool, isi_list_list, isi_list_tuple, isi_list_str, isi_list_none, isi_list_LI, isi_list_VL, isi_tuple_int, isi_tuple_bool, isi_tuple_list, isi_tuple_tuple, isi_tuple_str, isi_tuple_none, isi_tuple_LI, isi_tuple_VL, isi_str_int, isi_str_bool, isi_str_list, isi_str_tuple, isi_str_str, isi_str_none, isi_str_LI, isi_str_VL, decide_true, decide_false, Bool.and_true, Bool.and_false, Bool.true_and, Bool.false_and, Bool.or_true, Bool.or_false, reduceCtorEq, c_ib, c_iL]
    rfl
  apply Eq.trans
  · apply exSs_cons
    rw [exS, lT]
    rfl
  apply Eq.trans
  · apply exSs_cons
    apply ite_skip
    simp only [exSs, exS, ev.eq_1, ev.eq_2, ev.eq_3, ev.eq_4, ev.eq_5, ev.eq_6, ev.eq_7, ev.eq_8, ev.eq_9, ev.eq_10, ev.eq_11, ev.eq_12, ev.eq_13, ev.eq_14, ev.eq_15, ev.eq_16, ev.eq_17, ev.eq_18, ev.eq_19, ev.eq_21, ev.eq_22, ev.eq_23, ev.eq_24, ev.eq_25, ev.eq_26, ev.eq_27, ev.eq_28, ev.eq_29, evs, evO, evB, evC, evi, obO, obL, obI, obP, obS, obLS, obIS, Wl.ret, retB, dat, dats, views, view, startW, fin, put, putAll, setAll, wipeW, List.map_cons, List.map_nil, List.length_cons, List.length_nil, List.cons_append, List.nil_append, Nat.reduceAdd, Nat.reduceSub, Nat.reduceEqDiff, List.replicate_succ, List.replicate_zero, List.getElem?_cons_zero, List.getElem?_cons_succ, List.set_cons_zero, List.set_cons_succ, Option.map_some, len_LI, len_list, add_int, sub_int, mod_int, fdv_int, mul_int, pow_int, lt_int, le_int, gt_int, ge_int, eq_int, ne_int, eq_LI, ne_LI, inn_LI, nin_LI, sli_LI, sub_LI, seq_LI, cmpW_d, is_bool, isn_bool, Bool.not_true, Bool.not_false, beq_self_eq_true, ite_true, if_true, Bool.false_eq_true, if_false, reduceIte, Dw_frz, frz_0, frz_VL, ne_bool, eq_bool, sorted_LI, seq_VL, eq_VL, ne_VL, pair_0, pair_1, len_VL, newL_f, onlyL_LI, mthO_index, max2_int, min2_int, Dw_get, Dw_set, Dw_app, Dw_len, isiW_d, isi_int_int, isi_int_bool, isi_int_list, isi_int_tuple, isi_int_str, isi_int_none, isi_int_LI, isi_int_VL, isi_bool_int, isi_bool_bool, isi_bool_list, isi_bool_tuple, isi_bool_str, isi_bool_none, isi_bool_LI, isi_bool_VL, isi_list_int, isi_list_bool, isi_list_list, isi_list_tuple, isi_list_str, isi_list_none, isi_list_LI, isi_list_VL, isi_tuple_int, isi_tuple_bool, isi_tuple_list, isi_tuple_tuple, isi_tuple_str, isi_tuple_none, isi_tuple_LI, isi_tuple_VL, isi_str_int, isi_str_bool, isi_str_list, isi_str_tuple, isi_str_str, isi_str_none, isi_str_LI, isi_str_VL, decide_true, decide_false, Bool.and_true, Bool.and_false, Bool.true_and, Bool.false_and, Bool.or_true, Bool.or_false, reduceCtorEq, c_iU, c_eT, true_call, eq_tt]
    rfl
  apply Eq.trans
  · apply exSs_cons
    (simp only [exSs, exS, ev.eq_1, ev.eq_2, ev.eq_3, ev.eq_4, ev.eq_5, ev.eq_6, ev.eq_7, ev.eq_8, ev.eq_9, ev.eq_10, ev.eq_11, ev.eq_12, ev.eq_13, ev.eq_14, ev.eq_15, ev.eq_16, ev.eq_17, ev.eq_18, ev.eq_19, ev.eq_21, ev.eq_22, ev.eq_23, ev.eq_24, ev.eq_25, ev.eq_26, ev.eq_27, ev.eq_28, ev.eq_29, evs, evO, evB, evC, evi, obO, obL, obI, obP, obS, obLS, obIS, Wl.ret, retB, dat, dats, views, view, startW, fin, put, putAll, setAll, wipeW, List.map_cons, List.map_nil, List.length_cons, List.length_nil, List.cons_append, List.nil_append, Nat.reduceAdd, Nat.reduceSub, Nat.reduceEqDiff, List.replicate_succ, List.replicate_zero, List.getElem?_cons_zero, List.getElem?_cons_succ, List.set_cons_zero, List.set_cons_succ, Option.map_some, len_LI, len_list, add_int, sub_int, mod_int, fdv_int, mul_int, pow_int, lt_int, le_int, gt_int, ge_int, eq_int, ne_int, eq_LI, ne_LI, inn_LI, nin_LI, sli_LI, sub_LI, seq_LI, cmpW_d, is_bool, isn_bool, Bool.not_true, Bool.not_false, beq_self_eq_true, ite_true, if_true, Bool.false_eq_true, if_false, reduceIte, Dw_frz, frz_0, frz_VL, ne_bool, eq_bool, sorted_LI, seq_VL, eq_VL, ne_VL, pair_0, pair_1, len_VL, newL_f, onlyL_LI, mthO_index, max2_int, min2_int, Dw_get, Dw_set, Dw_app, Dw_len, isiW_d, isi_int_int, isi_int_bool, isi_int_list, isi_int_tuple, isi_int_str, isi_int_none, isi_int_LI, isi_int_VL, isi_bool_int, isi_bool_bool, isi_bool_list, isi_bool_tuple, isi_bool_str, isi_bool_none, isi_bool_LI, isi_bool_VL, isi_list_int, isi_list_bool, isi_list_list, isi_list_tuple, isi_list_str, isi_list_none, isi_list_LI, isi_list_VL, isi_tuple_int, isi_tuple_bool, isi_tuple_list, isi_tuple_tuple, isi_tuple_str, isi_tuple_none, isi_tuple_LI, isi_tuple_VL, isi_str_int, isi_str_bool, isi_str_list, isi_str_tuple, isi_str_str, isi_str_none, isi_str_LI, isi_str_VL, decide_true, decide_false, Bool.and_true, Bool.and_false, Bool.true_and, Bool.false_and, Bool.or_true, Bool.or_false, reduceCtorEq, mxo]) <;> rfl
  apply Eq.trans
  · apply exSs_cons
    (simp only [exSs, exS, ev.eq_1, ev.eq_2, ev.eq_3, ev.eq_4, ev.eq_5, ev.eq_6, ev.eq_7, ev.eq_8, ev.eq_9, ev.eq_10, ev.eq_11, ev.eq_12, ev.eq_13, ev.eq_14, ev.eq_15, ev.eq_16, ev.eq_17, ev.eq_18, ev.eq_19, ev.eq_21, ev.eq_22, ev.eq_23, ev.eq_24, ev.eq_25, ev.eq_26, ev.eq_27, ev.eq_28, ev.eq_29, evs, evO, evB, evC, evi, obO, obL, obI, obP, obS, obLS, obIS, Wl.ret, retB, dat, dats, views, view, startW, fin, put, putAll, setAll, wipeW, List.map_cons, List.map_nil, List.length_cons, List.length_nil, List.cons_append, List.nil_append, Nat.reduceAdd, Nat.reduceSub, Nat.reduceEqDiff, List.replicate_succ, List.replicate_zero, List.getElem?_cons_zero, List.getElem?_cons_succ, List.set_cons_zero, List.set_cons_succ, Option.map_some, len_LI, len_list, add_int, sub_int, mod_int, fdv_int, mul_int, pow_int, lt_int, le_int, gt_int, ge_int, eq_int, ne_int, eq_LI, ne_LI, inn_LI, nin_LI, sli_LI, sub_LI, seq_LI, cmpW_d, is_bool, isn_bool, Bool.not_true, Bool.not_false, beq_self_eq_true, ite_true, if_true, Bool.false_eq_true, if_false, reduceIte, Dw_frz, frz_0, frz_VL, ne_bool, eq_bool, sorted_LI, seq_VL, eq_VL, ne_VL, pair_0, pair_1, len_VL, newL_f, onlyL_LI, mthO_index, max2_int, min2_int, Dw_get, Dw_set, Dw_app, Dw_len, isiW_d, isi_int_int, isi_int_bool, isi_int_list, isi_int_tuple, isi_int_str, isi_int_none, isi_int_LI, isi_int_VL, isi_bool_int, isi_bool_bool, isi_bool_list, isi_bool_tuple, isi_bool_str, isi_bool_none, isi_bool_LI, isi_bool_VL, isi_list_int, isi_list_bool, isi_list_list, isi_list_tuple, isi_list_str, isi_list_none, isi_list_LI, isi_list_VL, isi_tuple_int, isi_tuple_bool, isi_tuple_list, isi_tuple_tuple, isi_tuple_str, isi_tuple_none, isi_tuple_LI, isi_tuple_VL, isi_str_int, isi_str_bool, isi_str_list, isi_str_tuple, isi_str_str, isi_str_none, isi_str_LI, isi_str_VL, decide_true, decide_false, Bool.and_true, Bool.and_false, Bool.true_and, Bool.false_and, Bool.or_true, Bool.or_false, reduceCtorEq, c_rL, rc]) <;> rfl
  simp only [exSs, exS, ev.eq_1, ev.eq_2, ev.eq_3, ev.eq_4, ev.eq_5, ev.eq_6, ev.eq_7, ev.eq_8, ev.eq_9, ev.eq_10, ev.eq_11, ev.eq_12, ev.eq_13, ev.eq_14, ev.eq_15, ev.eq_16, ev.eq_17, ev.eq_18, ev.eq_19, ev.eq_21, ev.eq_22, ev.eq_23, ev.eq_24, ev.eq_25, ev.eq_26, ev.eq_27, ev.eq_28, ev.eq_29, evs, evO, evB, evC, evi, obO, obL, obI, obP, obS, obLS, obIS, Wl.ret, retB, dat, dats, views, view, startW, fin, put, putAll, setAll, wipeW, List.map_cons, List.map_nil, List.length_cons, List.length_nil, List.cons_append, List.nil_append, Nat.reduceAdd, Nat.reduceSub, Nat.reduceEqDiff, List.replicate_succ, List.replicate_zero, List.getElem?_cons_zero, List.getElem?_cons_succ, List.set_cons_zero, List.set_cons_succ, Option.map_some, len_LI, len_list, add_int, sub_int, mod_int, fdv_int, mul_int, pow_int, lt_int, le_int, gt_int, ge_int, eq_int, ne_int, eq_LI, ne_LI, inn_LI, nin_LI, sli_LI, sub_LI, seq_LI, cmpW_d, is_bool, isn_bool, Bool.not_true, Bool.not_false, beq_self_eq_true, ite_true, if_true, Bool.false_eq_true, if_false, reduceIte, Dw_frz, frz_0, frz_VL, ne_bool, eq_bool, sorted_LI, seq_VL, eq_VL, ne_VL, pair_0, pair_1, len_VL, newL_f, onlyL_LI, mthO_index, max2_int, min2_int, Dw_get, Dw_set, Dw_app, Dw_len, isiW_d, isi_int_int, isi_int_bool, isi_int_list, isi_int_tuple, isi_int_str, isi_int_none, isi_int_LI, isi_int_VL, isi_bool_int, isi_bool_bool, isi_bool_list, isi_bool_tuple, isi_bool_str, isi_bool_none, isi_bool_LI, isi_bool_VL, isi_list_int, isi_list_bool, isi_list_list, isi_list_tuple, isi_list_str, isi_list_none, isi_list_LI, isi_list_VL, isi_tuple_int, isi_tuple_bool, isi_tuple_list, isi_tuple_tuple, isi_tuple_str, isi_tuple_none, isi_tuple_LI, isi_tuple_VL, isi_str_int, isi_str_bool, isi_str_list, isi_str_tuple, isi_str_str, isi_str_none, isi_str_LI, isi_str_VL, decide_true, decide_false, Bool.and_true, Bool.and_false, Bool.true_and, Bool.false_and, Bool.or_true, Bool.or_false, reduceCtorEq, c_co, fin_lt]

def fuel : Nat := 20
def steps : Nat := 8000
end Law

set_option Elab.async false
set_option linter.all false
set_option maxRecDepth 100000
set_option maxHeartbeats 0
namespace Law
open PySem PySem.Spec PyProof.Rows L2 Wl
theorem ck0 : ckSs gg i0.body ⟨i0.N, defScope (sAt 0), fun _ => true⟩ (defBody (sAt 0)) = true := by decide +kernel
theorem sc0 : FnScope i0.N (i0.N.take i0.np) (defScope (sAt 0)) := ⟨rfl, rfl, rfl, by decide +kernel, rfl, by decide +kernel, by decide +kernel⟩
theorem ck1 : ckSs gg i1.body ⟨i1.N, defScope (sAt 1), fun _ => true⟩ (defBody (sAt 1)) = true := by decide +kernel
theorem sc1 : FnScope i1.N (i1.N.take i1.np) (defScope (sAt 1)) := ⟨rfl, rfl, rfl, by decide +kernel, rfl, by decide +kernel, by decide +kernel⟩
theorem ck2 : ckSs gg i2.body ⟨i2.N, defScope (sAt 2), fun _ => true⟩ (defBody (sAt 2)) = true := by decide +kernel
theorem sc2 : FnScope i2.N (i2.N.take i2.np) (defScope (sAt 2)) := ⟨rfl, rfl, rfl, by decide +kernel, rfl, by decide +kernel, by decide +kernel⟩
theorem ck3 : ckSs gg i3.body ⟨i3.N, defScope (sAt 3), fun _ => true⟩ (defBody (sAt 3)) = true := by decide +kernel
theorem sc3 : FnScope i3.N (i3.N.take i3.np) (defScope (sAt 3)) := ⟨rfl, rfl, rfl, by decide +kernel, rfl, by decide +kernel, by decide +kernel⟩
theorem ck4 : ckSs gg i4.body ⟨i4.N, defScope (sAt 4), fun _ => true⟩ (defBody (sAt 4)) = true := by decide +kernel
theorem sc4 : FnScope i4.N (i4.N.take i4.np) (defScope (sAt 4)) := ⟨rfl, rfl, rfl, by decide +kernel, rfl, by decide +kernel, by decide +kernel⟩
theorem ck5 : ckSs gg i5.body ⟨i5.N, defScope (sAt 5), fun _ => true⟩ (defBody (sAt 5)) = true := by decide +kernel
theorem sc5 : FnScope i5.N (i5.N.take i5.np) (defScope (sAt 5)) := ⟨rfl, rfl, rfl, by decide +kernel, rfl, by decide +kernel, by decide +kernel⟩
theorem ck6 : ckSs gg i6.body ⟨i6.N, defScope (sAt 6), fun _ => true⟩ (defBody (sAt 6)) = true := by decide +kernel
theorem sc6 : FnScope i6.N (i6.N.take i6.np) (defScope (sAt 6)) := ⟨rfl, rfl, rfl, by decide +kernel, rfl, by decide +kernel, by decide +kernel⟩
theorem ck7 : ckSs gg i7.body ⟨i7.N, defScope (sAt 7), fun _ => true⟩ (defBody (sAt 7)) = true := by decide +kernel
theorem sc7 : FnScope i7.N (i7.N.take i7.np) (defScope (sAt 7)) := ⟨rfl, rfl, rfl, by decide +kernel, rfl, by decide +kernel, by decide +kernel⟩
theorem ck8 : ckSs gg i8.body ⟨i8.N, defScope (sAt 8), fun _ => true⟩ (defBody (sAt 8)) = true := by decide +kernel
theorem sc8 : FnScope i8.N (i8.N.take i8.np) (defScope (sAt 8)) := ⟨rfl, rfl, rfl, by decide +kernel, rfl, by decide +kernel, by decide +kernel⟩
theorem ck9 : ckSs gg i9.body ⟨i9.N, defScope (sAt 9), fun _ => true⟩ (defBody (sAt 9)) = true := by decide +kernel
theorem sc9 : FnScope i9.N (i9.N.take i9.np) (defScope (sAt 9)) := ⟨rfl, rfl, rfl, by decide +kernel, rfl, by decide +kernel, by decide +kernel⟩
theorem ck10 : ckSs gg i10.body ⟨i10.N, defScope (sAt 10), fun _ => true⟩ (defBody (sAt 10)) = true := by decide +kernel
theorem sc10 : FnScope i10.N (i10.N.take i10.np) (defScope (sAt 10)) := ⟨rfl, rfl, rfl, by decide +kernel, rfl, by decide +kernel, by decide +kernel⟩
theorem ck11 : ckSs gg i11.body ⟨i11.N, defScope (sAt 11), fun _ => true⟩ (defBody (sAt 11)) = true := by decide +kernel
theorem sc11 : FnScope i11.N (i11.N.take i11.np) (defScope (sAt 11)) := ⟨rfl, rfl, rfl, by decide +kernel, rfl, by decide +kernel, by decide +kernel⟩
theorem ck12 : ckSs gg i12.body ⟨i12.N, defScope (sAt 12), fun _ => true⟩ (defBody (sAt 12)) = true := by decide +kernel
theorem sc12 : FnScope i12.N (i12.N.take i12.np) (defScope (sAt 12)) := ⟨rfl, rfl, rfl, by decide +kernel, rfl, by decide +kernel, by decide +kernel⟩
theorem ck13 : ckSs gg i13.body ⟨i13.N, defScope (sAt 13), fun _ => true⟩ (defBody (sAt 13)) = true := by decide +kernel
theorem sc13 : FnScope i13.N (i13.N.take i13.np) (defScope (sAt 13)) := ⟨rfl, rfl, rfl, by decide +kernel, rfl, by decide +kernel, by decide +kernel⟩
theorem ck14 : ckSs gg i14.body ⟨i14.N, defScope (sAt 14), fun _ => true⟩ (defBody (sAt 14)) = true := by decide +kernel
theorem sc14 : FnScope i14.N (i14.N.take i14.np) (defScope (sAt 14)) := ⟨rfl, rfl, rfl, by decide +kernel, rfl, by decide +kernel, by decide +kernel⟩
theorem ck15 : ckSs gg i15.body ⟨i15.N, defScope (sAt 15), fun _ => true⟩ (defBody (sAt 15)) = true := by decide +kernel
theorem sc15 : FnScope i15.N (i15.N.take i15.np) (defScope (sAt 15)) := ⟨rfl, rfl, rfl, by decide +kernel, rfl, by decide +kernel, by decide +kernel⟩
theorem ck16 : ckSs gg i16.body ⟨i16.N, defScope (sAt 16), fun _ => true⟩ (defBody (sAt 16)) = true := by decide +kernel
theorem sc16 : FnScope i16.N (i16.N.take i16.np) (defScope (sAt 16)) := ⟨rfl, rfl, rfl, by decide +kernel, rfl, by decide +kernel, by decide +kernel⟩
theorem ck17 : ckSs gg i17.body ⟨i17.N, defScope (sAt 17), fun _ => true⟩ (defBody (sAt 17)) = true := by decide +kernel
theorem sc17 : FnScope i17.N (i17.N.take i17.np) (defScope (sAt 17)) := ⟨rfl, rfl, rfl, by decide +kernel, rfl, by decide +kernel, by decide +kernel⟩
theorem ck18 : ckSs gg i18.body ⟨i18.N, defScope (sAt 18), fun _ => true⟩ (defBody (sAt 18)) = true := by decide +kernel
theorem sc18 : FnScope i18.N (i18.N.take i18.np) (defScope (sAt 18)) := ⟨rfl, rfl, rfl, by decide +kernel, rfl, by decide +kernel, by decide +kernel⟩
theorem ck19 : ckSs gg i19.body ⟨i19.N, defScope (sAt 19), fun _ => true⟩ (defBody (sAt 19)) = true := by decide +kernel
theorem sc19 : FnScope i19.N (i19.N.take i19.np) (defScope (sAt 19)) := ⟨rfl, rfl, rfl, by decide +kernel, rfl, by decide +kernel, by decide +kernel⟩
theorem ck20 : ckSs gg i20.body ⟨i20.N, defScope (sAt 20), fun _ => true⟩ (defBody (sAt 20)) = true := by decide +kernel
theorem sc20 : FnScope i20.N (i20.N.take i20.np) (defScope (sAt 20)) := ⟨rfl, rfl, rfl, by decide +kernel, rfl, by decide +kernel, by decide +kernel⟩
theorem ck21 : ckSs gg i21.body ⟨i21.N, defScope (sAt 21), fun _ => true⟩ (defBody (sAt 21)) = true := by decide +kernel
theorem sc21 : FnScope i21.N (i21.N.take i21.np) (defScope (sAt 21)) := ⟨rfl, rfl, rfl, by decide +kernel, rfl, by decide +kernel, by decide +kernel⟩
theorem ck22 : ckSs gg i22.body ⟨i22.N, defScope (sAt 22), fun _ => true⟩ (defBody (sAt 22)) = true := by decide +kernel
theorem sc22 : FnScope i22.N (i22.N.take i22.np) (defScope (sAt 22)) := ⟨rfl, rfl, rfl, by decide +kernel, rfl, by decide +kernel, by decide +kernel⟩
theorem ck23 : ckSs gg i23.body ⟨i23.N, defScope (sAt 23), fun _ => true⟩ (defBody (sAt 23)) = true := by decide +kernel
theorem sc23 : FnScope i23.N (i23.N.take i23.np) (defScope (sAt 23)) := ⟨rfl, rfl, rfl, by decide +kernel, rfl, by decide +kernel, by decide +kernel⟩
theorem ck24 : ckSs gg i24.body ⟨i24.N, defScope (sAt 24), fun _ => true⟩ (defBody (sAt 24)) = true := by decide +kernel
theorem sc24 : FnScope i24.N (i24.N.take i24.np) (defScope (sAt 24)) := ⟨rfl, rfl, rfl, by decide +kernel, rfl, by decide +kernel, by decide +kernel⟩
theorem ck25 : ckSs gg i25.body ⟨i25.N, defScope (sAt 25), fun _ => true⟩ (defBody (sAt 25)) = true := by decide +kernel
theorem sc25 : FnScope i25.N (i25.N.take i25.np) (defScope (sAt 25)) := ⟨rfl, rfl, rfl, by decide +kernel, rfl, by decide +kernel, by decide +kernel⟩
def fa : List He.Fa := [.free "len", .free "max", .free "min", .free "sum", .free "all", .free "any", .free "sorted", .free "list", .free "tuple", .free "str", .free "int", .free "bool", .free "isinstance", .free "range", .free "zip", .free "enumerate", .free "ValueError", .free "set", .int "MOST_VALUES" 12, .int "MOST_VALUE" 9, .glo "WindowError", .glo "BadRow", .exc "BadRow", .glo "BadWidth", .exc "BadWidth", .glo "BadNumber", .exc "BadNumber", .glo "NotFound", .exc "NotFound", .glo "is_int", .keep "is_int", .glo "is_row", .keep "is_row", .glo "check_row", .keep "check_row", .glo "check_width", .keep "check_width", .glo "check_low", .keep "check_low", .glo "check_most", .keep "check_most", .glo "lows", .keep "lows", .glo "low_row", .keep "low_row", .glo "lowest_origin", .keep "lowest_origin", .glo "check_origin", .keep "check_origin", .glo "least_origin", .keep "least_origin", .glo "is_origin", .keep "is_origin", .glo "ways", .keep "ways", .glo "row_holds", .keep "row_holds", .glo "after", .keep "after", .glo "count_origins", .keep "count_origins", .glo "followed", .keep "followed", .glo "rank_of_origin", .keep "rank_of_origin", .glo "fitting", .keep "fitting", .glo "are_enough", .keep "are_enough", .glo "_law_start", .keep "_law_start", .glo "_law_draw", .keep "_law_draw", .glo "_law_pick", .keep "_law_pick", .glo "_law_true", .keep "_law_true", .glo "_law_row", .keep "_law_row", .glo "law", .keep "law"]
def fn : List He.FnD := [⟨("is_int", none), "is_int", "is_int", defArgs (sAt 0), defBody (sAt 0), defScope (sAt 0)⟩, ⟨("is_row", none), "is_row", "is_row", defArgs (sAt 1), defBody (sAt 1), defScope (sAt 1)⟩, ⟨("check_row", none), "check_row", "check_row", defArgs (sAt 2), defBody (sAt 2), defScope (sAt 2)⟩, ⟨("check_width", none), "check_width", "check_width", defArgs (sAt 3), defBody (sAt 3), defScope (sAt 3)⟩, ⟨("check_low", none), "check_low", "check_low", defArgs (sAt 4), defBody (sAt 4), defScope (sAt 4)⟩, ⟨("check_most", none), "check_most", "check_most", defArgs (sAt 5), defBody (sAt 5), defScope (sAt 5)⟩, ⟨("lows", none), "lows", "lows", defArgs (sAt 6), defBody (sAt 6), defScope (sAt 6)⟩, ⟨("low_row", none), "low_row", "low_row", defArgs (sAt 7), defBody (sAt 7), defScope (sAt 7)⟩, ⟨("lowest_origin", none), "lowest_origin", "lowest_origin", defArgs (sAt 8), defBody (sAt 8), defScope (sAt 8)⟩, ⟨("check_origin", none), "check_origin", "check_origin", defArgs (sAt 9), defBody (sAt 9), defScope (sAt 9)⟩, ⟨("least_origin", none), "least_origin", "least_origin", defArgs (sAt 10), defBody (sAt 10), defScope (sAt 10)⟩, ⟨("is_origin", none), "is_origin", "is_origin", defArgs (sAt 11), defBody (sAt 11), defScope (sAt 11)⟩, ⟨("ways", none), "ways", "ways", defArgs (sAt 12), defBody (sAt 12), defScope (sAt 12)⟩, ⟨("row_holds", none), "row_holds", "row_holds", defArgs (sAt 13), defBody (sAt 13), defScope (sAt 13)⟩, ⟨("after", none), "after", "after", defArgs (sAt 14), defBody (sAt 14), defScope (sAt 14)⟩, ⟨("count_origins", none), "count_origins", "count_origins", defArgs (sAt 15), defBody (sAt 15), defScope (sAt 15)⟩, ⟨("followed", none), "followed", "followed", defArgs (sAt 16), defBody (sAt 16), defScope (sAt 16)⟩, ⟨("rank_of_origin", none), "rank_of_origin", "rank_of_origin", defArgs (sAt 17), defBody (sAt 17), defScope (sAt 17)⟩, ⟨("fitting", none), "fitting", "fitting", defArgs (sAt 18), defBody (sAt 18), defScope (sAt 18)⟩, ⟨("are_enough", none), "are_enough", "are_enough", defArgs (sAt 19), defBody (sAt 19), defScope (sAt 19)⟩, ⟨("_law_start", none), "_law_start", "_law_start", defArgs (sAt 20), defBody (sAt 20), defScope (sAt 20)⟩, ⟨("_law_draw", none), "_law_draw", "_law_draw", defArgs (sAt 21), defBody (sAt 21), defScope (sAt 21)⟩, ⟨("_law_pick", none), "_law_pick", "_law_pick", defArgs (sAt 22), defBody (sAt 22), defScope (sAt 22)⟩, ⟨("_law_true", none), "_law_true", "_law_true", defArgs (sAt 23), defBody (sAt 23), defScope (sAt 23)⟩, ⟨("_law_row", none), "_law_row", "_law_row", defArgs (sAt 24), defBody (sAt 24), defScope (sAt 24)⟩, ⟨("law", none), "law", "law", defArgs (sAt 25), defBody (sAt 25), defScope (sAt 25)⟩]
abbrev csA : List Str := gg.cs
abbrev R : PySem.W.OpenRow := PySem.W.OpenLaw.row PySem.Challenge.rw_windowlows_k11_whole_lesser
abbrev hk : PySem.W.Hook := He.hookE 4 fa fn
def ob (s : PySem.W.SharedT) : He.Al := He.obsG 4 fa fn (HandSHeadRun.getT s)
theorem ob_eq (s : PySem.W.SharedT) : ob s = hk.obs s.abs := He.obsG_eq (HandSHeadRun.getT_eq s)
def names : List PySem.Str := [("is_int" : Str), ("is_row" : Str), ("check_row" : Str), ("check_width" : Str), ("check_low" : Str), ("check_most" : Str), ("lows" : Str), ("low_row" : Str), ("lowest_origin" : Str), ("check_origin" : Str), ("least_origin" : Str), ("is_origin" : Str), ("ways" : Str), ("row_holds" : Str), ("after" : Str), ("count_origins" : Str), ("followed" : Str), ("rank_of_origin" : Str), ("fitting" : Str), ("are_enough" : Str), ("_law_start" : Str), ("_law_draw" : Str), ("_law_pick" : Str), ("_law_true" : Str), ("_law_row" : Str), ("WindowError" : Str), ("BadRow" : Str), ("BadWidth" : Str), ("BadNumber" : Str), ("NotFound" : Str), ("MOST_VALUES" : Str), ("MOST_VALUE" : Str)]
theorem hrun (w : World) : HandSHeadRun.RunEq R (PySem.W.view R.prog [38]) hk ob 8000 names w := by
  intro os
  kernel_rfl
section
variable {K : PySem.W.Frag} {mg : Str → Option Value} {h : Heap}
abbrev cs (K : PySem.W.Frag) (k : Nat) : Addr := match csA[k]? with
  | some y => He.ga K y
  | none => 0
abbrev fAt (K : PySem.W.Frag) (f : Nat) : Addr := match fn[f]? with
  | some d => He.fAd K d.at_
  | none => 0

theorem bi0 {f : Addr} {fd : FuncData} (F : Fun K "is_int" "is_int" (sAt 0) f fd) : Binds K fd (i0.N.take i0.np) [] := F.binds (ps := ["value", "low", "high"]) fun _ _ _ _ _ _ us hl => match us, hl with | [_, _, _], _ => rfl
theorem bi1 {f : Addr} {fd : FuncData} (F : Fun K "is_row" "is_row" (sAt 1) f fd) : Binds K fd (i1.N.take i1.np) [] := F.binds (ps := ["value"]) fun _ _ _ _ _ _ us hl => match us, hl with | [_], _ => rfl
theorem bi2 {f : Addr} {fd : FuncData} (F : Fun K "check_row" "check_row" (sAt 2) f fd) : Binds K fd (i2.N.take i2.np) [] := F.binds (ps := ["value"]) fun _ _ _ _ _ _ us hl => match us, hl with | [_], _ => rfl
theorem bi3 {f : Addr} {fd : FuncData} (F : Fun K "check_width" "check_width" (sAt 3) f fd) : Binds K fd (i3.N.take i3.np) [] := F.binds (ps := ["row", "width"]) fun _ _ _ _ _ _ us hl => match us, hl with | [_, _], _ => rfl
theorem bi4 {f : Addr} {fd : FuncData} (F : Fun K "check_low" "check_low" (sAt 4) f fd) : Binds K fd (i4.N.take i4.np) [] := F.binds (ps := ["row", "width"]) fun _ _ _ _ _ _ us hl => match us, hl with | [_, _], _ => rfl
theorem bi5 {f : Addr} {fd : FuncData} (F : Fun K "check_most" "check_most" (sAt 5) f fd) : Binds K fd (i5.N.take i5.np) [] := F.binds (ps := ["value"]) fun _ _ _ _ _ _ us hl => match us, hl with | [_], _ => rfl
theorem bi6 {f : Addr} {fd : FuncData} (F : Fun K "lows" "lows" (sAt 6) f fd) : Binds K fd (i6.N.take i6.np) [] := F.binds (ps := ["row", "width"]) fun _ _ _ _ _ _ us hl => match us, hl with | [_, _], _ => rfl
theorem bi7 {f : Addr} {fd : FuncData} (F : Fun K "low_row" "low_row" (sAt 7) f fd) : Binds K fd (i7.N.take i7.np) [] := F.binds (ps := ["row", "width"]) fun _ _ _ _ _ _ us hl => match us, hl with | [_, _], _ => rfl
theorem bi8 {f : Addr} {fd : FuncData} (F : Fun K "lowest_origin" "lowest_origin" (sAt 8) f fd) : Binds K fd (i8.N.take i8.np) [] := F.binds (ps := ["row", "width"]) fun _ _ _ _ _ _ us hl => match us, hl with | [_, _], _ => rfl
theorem bi9 {f : Addr} {fd : FuncData} (F : Fun K "check_origin" "check_origin" (sAt 9) f fd) : Binds K fd (i9.N.take i9.np) [] := F.binds (ps := ["row", "width"]) fun _ _ _ _ _ _ us hl => match us, hl with | [_, _], _ => rfl
theorem bi10 {f : Addr} {fd : FuncData} (F : Fun K "least_origin" "least_origin" (sAt 10) f fd) : Binds K fd (i10.N.take i10.np) [] := F.binds (ps := ["row", "width"]) fun _ _ _ _ _ _ us hl => match us, hl with | [_, _], _ => rfl
theorem bi11 {f : Addr} {fd : FuncData} (F : Fun K "is_origin" "is_origin" (sAt 11) f fd) : Binds K fd (i11.N.take i11.np) [] := F.binds (ps := ["other", "row", "width"]) fun _ _ _ _ _ _ us hl => match us, hl with | [_, _, _], _ => rfl
theorem bi12 {f : Addr} {fd : FuncData} (F : Fun K "ways" "ways" (sAt 12) f fd) : Binds K fd (i12.N.take i12.np) [] := F.binds (ps := ["row", "low", "width", "most", "place", "tight", "known"]) fun _ _ _ _ _ _ us hl => match us, hl with | [_, _, _, _, _, _, _], _ => rfl
theorem bi13 {f : Addr} {fd : FuncData} (F : Fun K "row_holds" "row_holds" (sAt 13) f fd) : Binds K fd (i13.N.take i13.np) [] := F.binds (ps := ["row", "low", "width", "place", "tight"]) fun _ _ _ _ _ _ us hl => match us, hl with | [_, _, _, _, _], _ => rfl
theorem bi14 {f : Addr} {fd : FuncData} (F : Fun K "after" "after" (sAt 14) f fd) : Binds K fd (i14.N.take i14.np) [] := F.binds (ps := ["tight", "mark", "width"]) fun _ _ _ _ _ _ us hl => match us, hl with | [_, _, _], _ => rfl
theorem bi15 {f : Addr} {fd : FuncData} (F : Fun K "count_origins" "count_origins" (sAt 15) f fd) : Binds K fd (i15.N.take i15.np) [] := F.binds (ps := ["row", "width", "most"]) fun _ _ _ _ _ _ us hl => match us, hl with | [_, _, _], _ => rfl
theorem bi16 {f : Addr} {fd : FuncData} (F : Fun K "followed" "followed" (sAt 16) f fd) : Binds K fd (i16.N.take i16.np) [] := F.binds (ps := ["row", "low", "width", "most", "place", "tight", "value", "known"]) fun _ _ _ _ _ _ us hl => match us, hl with | [_, _, _, _, _, _, _, _], _ => rfl
theorem bi17 {f : Addr} {fd : FuncData} (F : Fun K "rank_of_origin" "rank_of_origin" (sAt 17) f fd) : Binds K fd (i17.N.take i17.np) [] := F.binds (ps := ["other", "width", "most"]) fun _ _ _ _ _ _ us hl => match us, hl with | [_, _, _], _ => rfl
theorem bi18 {f : Addr} {fd : FuncData} (F : Fun K "fitting" "fitting" (sAt 18) f fd) : Binds K fd (i18.N.take i18.np) [] := F.binds (ps := ["row", "low", "width", "first"]) fun _ _ _ _ _ _ us hl => match us, hl with | [_, _, _, _], _ => rfl
theorem bi19 {f : Addr} {fd : FuncData} (F : Fun K "are_enough" "are_enough" (sAt 19) f fd) : Binds K fd (i19.N.take i19.np) [] := F.binds (ps := ["row", "width", "places"]) fun _ _ _ _ _ _ us hl => match us, hl with | [_, _, _], _ => rfl
theorem bi20 {f : Addr} {fd : FuncData} (F : Fun K "_law_start" "_law_start" (sAt 20) f fd) : Binds K fd (i20.N.take i20.np) [] := F.binds (ps := ["_law_script"]) fun _ _ _ _ _ _ us hl => match us, hl with | [_], _ => rfl
theorem bi21 {f : Addr} {fd : FuncData} (F : Fun K "_law_draw" "_law_draw" (sAt 21) f fd) : Binds K fd (i21.N.take i21.np) [] := F.binds (ps := ["_law_draws", "_law_limit"]) fun _ _ _ _ _ _ us hl => match us, hl with | [_, _], _ => rfl
theorem bi22 {f : Addr} {fd : FuncData} (F : Fun K "_law_pick" "_law_pick" (sAt 22) f fd) : Binds K fd (i22.N.take i22.np) [] := F.binds (ps := ["_law_draws", "_law_choices"]) fun _ _ _ _ _ _ us hl => match us, hl with | [_, _], _ => rfl
theorem bi23 {f : Addr} {fd : FuncData} (F : Fun K "_law_true" "_law_true" (sAt 23) f fd) : Binds K fd (i23.N.take i23.np) [] := F.binds (ps := ["_law_value", "_law_expected"]) fun _ _ _ _ _ _ us hl => match us, hl with | [_, _], _ => rfl
theorem bi24 {f : Addr} {fd : FuncData} (F : Fun K "_law_row" "_law_row" (sAt 24) f fd) : Binds K fd (i24.N.take i24.np) [] := F.binds (ps := ["_law_draws", "_law_most"]) fun _ _ _ _ _ _ us hl => match us, hl with | [_, _], _ => rfl
theorem bi25 {f : Addr} {fd : FuncData} (F : Fun K "law" "law" (sAt 25) f fd) : Binds K fd (i25.N.take i25.np) [] := F.binds (ps := ["_law_script"]) fun _ _ _ _ _ _ us hl => match us, hl with | [_], _ => rfl
theorem tb (cX : He.SaysE fa fn K) (X : K.In h) (G : h.Ns mainGlobals mg) : ∃ fd, Tb gg T (cs K) K mg (fAt K) fd sAt ∧ ∀ (s : Shared) (u : Value), BindsTo s (fd 25) ⟨[u], []⟩ [("_law_script", u)] := by
  have c := cX
  obtain ⟨oc0, od0, osl0, kV0, doc0, pm0, an0, cdv0, ct0, l0, d0⟩ := c.def_ 0
  have F0 : Fun K "is_int" "is_int" (sAt 0) (fAt K 0) _ := fun_mk l0 d0 (He.keep_ok (c.fact 30 (f := .keep "is_int")))
  obtain ⟨oc1, od1, osl1, kV1, doc1, pm1, an1, cdv1, ct1, l1, d1⟩ := c.def_ 1
  have F1 : Fun K "is_row" "is_row" (sAt 1) (fAt K 1) _ := fun_mk l1 d1 (He.keep_ok (c.fact 32 (f := .keep "is_row")))
  obtain ⟨oc2, od2, osl2, kV2, doc2, pm2, an2, cdv2, ct2, l2, d2⟩ := c.def_ 2
  have F2 : Fun K "check_row" "check_row" (sAt 2) (fAt K 2) _ := fun_mk l2 d2 (He.keep_ok (c.fact 34 (f := .keep "check_row")))
  obtain ⟨oc3, od3, osl3, kV3, doc3, pm3, an3, cdv3, ct3, l3, d3⟩ := c.def_ 3
  have F3 : Fun K "check_width" "check_width" (sAt 3) (fAt K 3) _ := fun_mk l3 d3 (He.keep_ok (c.fact 36 (f := .keep "check_width")))
  obtain ⟨oc4, od4, osl4, kV4, doc4, pm4, an4, cdv4, ct4, l4, d4⟩ := c.def_ 4
  have F4 : Fun K "check_low" "check_low" (sAt 4) (fAt K 4) _ := fun_mk l4 d4 (He.keep_ok (c.fact 38 (f := .keep "check_low")))
  obtain ⟨oc5, od5, osl5, kV5, doc5, pm5, an5, cdv5, ct5, l5, d5⟩ := c.def_ 5
  have F5 : Fun K "check_most" "check_most" (sAt 5) (fAt K 5) _ := fun_mk l5 d5 (He.keep_ok (c.fact 40 (f := .keep "check_most")))
  obtain ⟨oc6, od6, osl6, kV6, doc6, pm6, an6, cdv6, ct6, l6, d6⟩ := c.def_ 6
  have F6 : Fun K "lows" "lows" (sAt 6) (fAt K 6) _ := fun_mk l6 d6 (He.keep_ok (c.fact 42 (f := .keep "lows")))
  obtain ⟨oc7, od7, osl7, kV7, doc7, pm7, an7, cdv7, ct7, l7, d7⟩ := c.def_ 7
  have F7 : Fun K "low_row" "low_row" (sAt 7) (fAt K 7) _ := fun_mk l7 d7 (He.keep_ok (c.fact 44 (f := .keep "low_row")))
  obtain ⟨oc8, od8, osl8, kV8, doc8, pm8, an8, cdv8, ct8, l8, d8⟩ := c.def_ 8
  have F8 : Fun K "lowest_origin" "lowest_origin" (sAt 8) (fAt K 8) _ := fun_mk l8 d8 (He.keep_ok (c.fact 46 (f := .keep "lowest_origin")))
  obtain ⟨oc9, od9, osl9, kV9, doc9, pm9, an9, cdv9, ct9, l9, d9⟩ := c.def_ 9
  have F9 : Fun K "check_origin" "check_origin" (sAt 9) (fAt K 9) _ := fun_mk l9 d9 (He.keep_ok (c.fact 48 (f := .keep "check_origin")))
  obtain ⟨oc10, od10, osl10, kV10, doc10, pm10, an10, cdv10, ct10, l10, d10⟩ := c.def_ 10
  have F10 : Fun K "least_origin" "least_origin" (sAt 10) (fAt K 10) _ := fun_mk l10 d10 (He.keep_ok (c.fact 50 (f := .keep "least_origin")))
  obtain ⟨oc11, od11, osl11, kV11, doc11, pm11, an11, cdv11, ct11, l11, d11⟩ := c.def_ 11
  have F11 : Fun K "is_origin" "is_origin" (sAt 11) (fAt K 11) _ := fun_mk l11 d11 (He.keep_ok (c.fact 52 (f := .keep "is_origin")))
  obtain ⟨oc12, od12, osl12, kV12, doc12, pm12, an12, cdv12, ct12, l12, d12⟩ := c.def_ 12
  have F12 : Fun K "ways" "ways" (sAt 12) (fAt K 12) _ := fun_mk l12 d12 (He.keep_ok (c.fact 54 (f := .keep "ways")))
  obtain ⟨oc13, od13, osl13, kV13, doc13, pm13, an13, cdv13, ct13, l13, d13⟩ := c.def_ 13
  have F13 : Fun K "row_holds" "row_holds" (sAt 13) (fAt K 13) _ := fun_mk l13 d13 (He.keep_ok (c.fact 56 (f := .keep "row_holds")))
  obtain ⟨oc14, od14, osl14, kV14, doc14, pm14, an14, cdv14, ct14, l14, d14⟩ := c.def_ 14
  have F14 : Fun K "after" "after" (sAt 14) (fAt K 14) _ := fun_mk l14 d14 (He.keep_ok (c.fact 58 (f := .keep "after")))
  obtain ⟨oc15, od15, osl15, kV15, doc15, pm15, an15, cdv15, ct15, l15, d15⟩ := c.def_ 15
  have F15 : Fun K "count_origins" "count_origins" (sAt 15) (fAt K 15) _ := fun_mk l15 d15 (He.keep_ok (c.fact 60 (f := .keep "count_origins")))
  obtain ⟨oc16, od16, osl16, kV16, doc16, pm16, an16, cdv16, ct16, l16, d16⟩ := c.def_ 16
  have F16 : Fun K "followed" "followed" (sAt 16) (fAt K 16) _ := fun_mk l16 d16 (He.keep_ok (c.fact 62 (f := .keep "followed")))
  obtain ⟨oc17, od17, osl17, kV17, doc17, pm17, an17, cdv17, ct17, l17, d17⟩ := c.def_ 17
  have F17 : Fun K "rank_of_origin" "rank_of_origin" (sAt 17) (fAt K 17) _ := fun_mk l17 d17 (He.keep_ok (c.fact 64 (f := .keep "rank_of_origin")))
  obtain ⟨oc18, od18, osl18, kV18, doc18, pm18, an18, cdv18, ct18, l18, d18⟩ := c.def_ 18
  have F18 : Fun K "fitting" "fitting" (sAt 18) (fAt K 18) _ := fun_mk l18 d18 (He.keep_ok (c.fact 66 (f := .keep "fitting")))
  obtain ⟨oc19, od19, osl19, kV19, doc19, pm19, an19, cdv19, ct19, l19, d19⟩ := c.def_ 19
  have F19 : Fun K "are_enough" "are_enough" (sAt 19) (fAt K 19) _ := fun_mk l19 d19 (He.keep_ok (c.fact 68 (f := .keep "are_enough")))
  obtain ⟨oc20, od20, osl20, kV20, doc20, pm20, an20, cdv20, ct20, l20, d20⟩ := c.def_ 20
  have F20 : Fun K "_law_start" "_law_start" (sAt 20) (fAt K 20) _ := fun_mk l20 d20 (He.keep_ok (c.fact 70 (f := .keep "_law_start")))
  obtain ⟨oc21, od21, osl21, kV21, doc21, pm21, an21, cdv21, ct21, l21, d21⟩ := c.def_ 21
  have F21 : Fun K "_law_draw" "_law_draw" (sAt 21) (fAt K 21) _ := fun_mk l21 d21 (He.keep_ok (c.fact 72 (f := .keep "_law_draw")))
  obtain ⟨oc22, od22, osl22, kV22, doc22, pm22, an22, cdv22, ct22, l22, d22⟩ := c.def_ 22
  have F22 : Fun K "_law_pick" "_law_pick" (sAt 22) (fAt K 22) _ := fun_mk l22 d22 (He.keep_ok (c.fact 74 (f := .keep "_law_pick")))
  obtain ⟨oc23, od23, osl23, kV23, doc23, pm23, an23, cdv23, ct23, l23, d23⟩ := c.def_ 23
  have F23 : Fun K "_law_true" "_law_true" (sAt 23) (fAt K 23) _ := fun_mk l23 d23 (He.keep_ok (c.fact 76 (f := .keep "_law_true")))
  obtain ⟨oc24, od24, osl24, kV24, doc24, pm24, an24, cdv24, ct24, l24, d24⟩ := c.def_ 24
  have F24 : Fun K "_law_row" "_law_row" (sAt 24) (fAt K 24) _ := fun_mk l24 d24 (He.keep_ok (c.fact 78 (f := .keep "_law_row")))
  obtain ⟨oc25, od25, osl25, kV25, doc25, pm25, an25, cdv25, ct25, l25, d25⟩ := c.def_ 25
  have F25 : Fun K "law" "law" (sAt 25) (fAt K 25) _ := fun_mk l25 d25 (He.keep_ok (c.fact 80 (f := .keep "law")))
  refine ⟨fun f => [PySem.W.fnOf "is_int" "is_int" (defArgs (sAt 0)) (defBody (sAt 0)) (defScope (sAt 0)) .none kV0 doc0 pm0 an0 cdv0 ct0, PySem.W.fnOf "is_row" "is_row" (defArgs (sAt 1)) (defBody (sAt 1)) (defScope (sAt 1)) .none kV1 doc1 pm1 an1 cdv1 ct1, PySem.W.fnOf "check_row" "check_row" (defArgs (sAt 2)) (defBody (sAt 2)) (defScope (sAt 2)) .none kV2 doc2 pm2 an2 cdv2 ct2, PySem.W.fnOf "check_width" "check_width" (defArgs (sAt 3)) (defBody (sAt 3)) (defScope (sAt 3)) .none kV3 doc3 pm3 an3 cdv3 ct3, PySem.W.fnOf "check_low" "check_low" (defArgs (sAt 4)) (defBody (sAt 4)) (defScope (sAt 4)) .none kV4 doc4 pm4 an4 cdv4 ct4, PySem.W.fnOf "check_most" "check_most" (defArgs (sAt 5)) (defBody (sAt 5)) (defScope (sAt 5)) .none kV5 doc5 pm5 an5 cdv5 ct5, PySem.W.fnOf "lows" "lows" (defArgs (sAt 6)) (defBody (sAt 6)) (defScope (sAt 6)) .none kV6 doc6 pm6 an6 cdv6 ct6, PySem.W.fnOf "low_row" "low_row" (defArgs (sAt 7)) (defBody (sAt 7)) (defScope (sAt 7)) .none kV7 doc7 pm7 an7 cdv7 ct7, PySem.W.fnOf "lowest_origin" "lowest_origin" (defArgs (sAt 8)) (defBody (sAt 8)) (defScope (sAt 8)) .none kV8 doc8 pm8 an8 cdv8 ct8, PySem.W.fnOf "check_origin" "check_origin" (defArgs (sAt 9)) (defBody (sAt 9)) (defScope (sAt 9)) .none kV9 doc9 pm9 an9 cdv9 ct9, PySem.W.fnOf "least_origin" "least_origin" (defArgs (sAt 10)) (defBody (sAt 10)) (defScope (sAt 10)) .none kV10 doc10 pm10 an10 cdv10 ct10, PySem.W.fnOf "is_origin" "is_origin" (defArgs (sAt 11)) (defBody (sAt 11)) (defScope (sAt 11)) .none kV11 doc11 pm11 an11 cdv11 ct11, PySem.W.fnOf "ways" "ways" (defArgs (sAt 12)) (defBody (sAt 12)) (defScope (sAt 12)) .none kV12 doc12 pm12 an12 cdv12 ct12, PySem.W.fnOf "row_holds" "row_holds" (defArgs (sAt 13)) (defBody (sAt 13)) (defScope (sAt 13)) .none kV13 doc13 pm13 an13 cdv13 ct13, PySem.W.fnOf "after" "after" (defArgs (sAt 14)) (defBody (sAt 14)) (defScope (sAt 14)) .none kV14 doc14 pm14 an14 cdv14 ct14, PySem.W.fnOf "count_origins" "count_origins" (defArgs (sAt 15)) (defBody (sAt 15)) (defScope (sAt 15)) .none kV15 doc15 pm15 an15 cdv15 ct15, PySem.W.fnOf "followed" "followed" (defArgs (sAt 16)) (defBody (sAt 16)) (defScope (sAt 16)) .none kV16 doc16 pm16 an16 cdv16 ct16, PySem.W.fnOf "rank_of_origin" "rank_of_origin" (defArgs (sAt 17)) (defBody (sAt 17)) (defScope (sAt 17)) .none kV17 doc17 pm17 an17 cdv17 ct17, PySem.W.fnOf "fitting" "fitting" (defArgs (sAt 18)) (defBody (sAt 18)) (defScope (sAt 18)) .none kV18 doc18 pm18 an18 cdv18 ct18, PySem.W.fnOf "are_enough" "are_enough" (defArgs (sAt 19)) (defBody (sAt 19)) (defScope (sAt 19)) .none kV19 doc19 pm19 an19 cdv19 ct19, PySem.W.fnOf "_law_start" "_law_start" (defArgs (sAt 20)) (defBody (sAt 20)) (defScope (sAt 20)) .none kV20 doc20 pm20 an20 cdv20 ct20, PySem.W.fnOf "_law_draw" "_law_draw" (defArgs (sAt 21)) (defBody (sAt 21)) (defScope (sAt 21)) .none kV21 doc21 pm21 an21 cdv21 ct21, PySem.W.fnOf "_law_pick" "_law_pick" (defArgs (sAt 22)) (defBody (sAt 22)) (defScope (sAt 22)) .none kV22 doc22 pm22 an22 cdv22 ct22, PySem.W.fnOf "_law_true" "_law_true" (defArgs (sAt 23)) (defBody (sAt 23)) (defScope (sAt 23)) .none kV23 doc23 pm23 an23 cdv23 ct23, PySem.W.fnOf "_law_row" "_law_row" (defArgs (sAt 24)) (defBody (sAt 24)) (defScope (sAt 24)) .none kV24 doc24 pm24 an24 cdv24 ct24, PySem.W.fnOf "law" "law" (defArgs (sAt 25)) (defBody (sAt 25)) (defScope (sAt 25)) .none kV25 doc25 pm25 an25 cdv25 ct25].getD f (PySem.W.fnOf "is_int" "is_int" (defArgs (sAt 0)) (defBody (sAt 0)) (defScope (sAt 0)) .none kV0 doc0 pm0 an0 cdv0 ct0), ⟨?_, ?_, ?_, ?_, fun z => absurd z Bool.false_ne_true, fun z => absurd z Bool.false_ne_true, fun z => absurd z Bool.false_ne_true, fun z => absurd z Bool.false_ne_true, ?_, ?_, ?_, ?_⟩, fun s u => .of_eq rfl⟩
  · intro x hx
    obtain ⟨i, hi⟩ := List.getElem?_of_mem hx
    match i, hi with
    | 0, hi => obtain rfl : ("len" : Str) = x := Option.some.inj hi; exact He.free_ok X G (c.fact 0 (f := .free "len"))
    | 1, hi => obtain rfl : ("max" : Str) = x := Option.some.inj hi; exact He.free_ok X G (c.fact 1 (f := .free "max"))
    | 2, hi => obtain rfl : ("min" : Str) = x := Option.some.inj hi; exact He.free_ok X G (c.fact 2 (f := .free "min"))
    | 3, hi => obtain rfl : ("sum" : Str) = x := Option.some.inj hi; exact He.free_ok X G (c.fact 3 (f := .free "sum"))
    | 4, hi => obtain rfl : ("all" : Str) = x := Option.some.inj hi; exact He.free_ok X G (c.fact 4 (f := .free "all"))
    | 5, hi => obtain rfl : ("any" : Str) = x := Option.some.inj hi; exact He.free_ok X G (c.fact 5 (f := .free "any"))
    | 6, hi => obtain rfl : ("sorted" : Str) = x := Option.some.inj hi; exact He.free_ok X G (c.fact 6 (f := .free "sorted"))
    | 7, hi => obtain rfl : ("list" : Str) = x := Option.some.inj hi; exact He.free_ok X G (c.fact 7 (f := .free "list"))
    | 8, hi => obtain rfl : ("tuple" : Str) = x := Option.some.inj hi; exact He.free_ok X G (c.fact 8 (f := .free "tuple"))
    | 9, hi => obtain rfl : ("str" : Str) = x := Option.some.inj hi; exact He.free_ok X G (c.fact 9 (f := .free "str"))
    | 10, hi => obtain rfl : ("int" : Str) = x := Option.some.inj hi; exact He.free_ok X G (c.fact 10 (f := .free "int"))
    | 11, hi => obtain rfl : ("bool" : Str) = x := Option.some.inj hi; exact He.free_ok X G (c.fact 11 (f := .free "bool"))
    | 12, hi => obtain rfl : ("isinstance" : Str) = x := Option.some.inj hi; exact He.free_ok X G (c.fact 12 (f := .free "isinstance"))
    | 13, hi => obtain rfl : ("range" : Str) = x := Option.some.inj hi; exact He.free_ok X G (c.fact 13 (f := .free "range"))
    | 14, hi => obtain rfl : ("zip" : Str) = x := Option.some.inj hi; exact He.free_ok X G (c.fact 14 (f := .free "zip"))
    | 15, hi => obtain rfl : ("enumerate" : Str) = x := Option.some.inj hi; exact He.free_ok X G (c.fact 15 (f := .free "enumerate"))
    | 16, hi => obtain rfl : ("ValueError" : Str) = x := Option.some.inj hi; exact He.free_ok X G (c.fact 16 (f := .free "ValueError"))
    | 17, hi => obtain rfl : ("set" : Str) = x := Option.some.inj hi; exact He.free_ok X G (c.fact 17 (f := .free "set"))
    | n + 18, hi => exact absurd hi (by intro z; cases z)
  · intro x v hx
    have hx := lookup_cases _ hx
    match hx with
    | .inl ⟨rfl, rfl⟩ => obtain ⟨t, e⟩ := He.int_ok X G (c.fact 18 (f := .int "MOST_VALUES" 12)); exact ⟨_, .int 12, e, ⟨t, rfl⟩, fun F => .int _⟩
    | .inr (.inl ⟨rfl, rfl⟩) => obtain ⟨t, e⟩ := He.int_ok X G (c.fact 19 (f := .int "MOST_VALUE" 9)); exact ⟨_, .int 9, e, ⟨t, rfl⟩, fun F => .int _⟩
    | .inr (.inr (z)) => exact z.elim
  · intro k y hk hy
    match k, hk with
    | 0, hk => obtain rfl : ("WindowError" : Str) = y := Option.some.inj hk; exact He.glo_ok X G (c.fact 20 (f := .glo "WindowError"))
    | 1, hk => obtain rfl : ("BadRow" : Str) = y := Option.some.inj hk; exact He.glo_ok X G (c.fact 21 (f := .glo "BadRow"))
    | 2, hk => obtain rfl : ("BadWidth" : Str) = y := Option.some.inj hk; exact He.glo_ok X G (c.fact 23 (f := .glo "BadWidth"))
    | 3, hk => obtain rfl : ("BadNumber" : Str) = y := Option.some.inj hk; exact He.glo_ok X G (c.fact 25 (f := .glo "BadNumber"))
    | 4, hk => obtain rfl : ("" : Str) = y := Option.some.inj hk; exact absurd rfl hy
    | 5, hk => obtain rfl : ("NotFound" : Str) = y := Option.some.inj hk; exact He.glo_ok X G (c.fact 27 (f := .glo "NotFound"))
    | n + 6, hk => exact absurd hk (by intro z; cases z)
  · intro k y hk hy h1
    match k, hk with
    | 0, hk => exact absurd h1 (by decide)
    | 1, hk => exact He.exc_ok (c.fact 22 (f := .exc "BadRow"))
    | 2, hk => exact He.exc_ok (c.fact 24 (f := .exc "BadWidth"))
    | 3, hk => exact He.exc_ok (c.fact 26 (f := .exc "BadNumber"))
    | 4, hk => obtain rfl : ("" : Str) = y := Option.some.inj hk; exact absurd rfl hy
    | 5, hk => exact He.exc_ok (c.fact 28 (f := .exc "NotFound"))
    | n + 6, hk => exact absurd hk (by intro z; cases z)
  · intro f x hf
    match f, hf with
    | 0, hf => obtain rfl : ("is_int" : Str) = x := Option.some.inj hf; exact ⟨i0, rfl, F0, sc0, bi0 F0, He.glo_ok X G (c.fact 29 (f := .glo "is_int")), by decide, ck0⟩
    | 1, hf => obtain rfl : ("is_row" : Str) = x := Option.some.inj hf; exact ⟨i1, rfl, F1, sc1, bi1 F1, He.glo_ok X G (c.fact 31 (f := .glo "is_row")), by decide, ck1⟩
    | 2, hf => obtain rfl : ("check_row" : Str) = x := Option.some.inj hf; exact ⟨i2, rfl, F2, sc2, bi2 F2, He.glo_ok X G (c.fact 33 (f := .glo "check_row")), by decide, ck2⟩
    | 3, hf => obtain rfl : ("check_width" : Str) = x := Option.some.inj hf; exact ⟨i3, rfl, F3, sc3, bi3 F3, He.glo_ok X G (c.fact 35 (f := .glo "check_width")), by decide, ck3⟩
    | 4, hf => obtain rfl : ("check_low" : Str) = x := Option.some.inj hf; exact ⟨i4, rfl, F4, sc4, bi4 F4, He.glo_ok X G (c.fact 37 (f := .glo "check_low")), by decide, ck4⟩
    | 5, hf => obtain rfl : ("check_most" : Str) = x := Option.some.inj hf; exact ⟨i5, rfl, F5, sc5, bi5 F5, He.glo_ok X G (c.fact 39 (f := .glo "check_most")), by decide, ck5⟩
    | 6, hf => obtain rfl : ("lows" : Str) = x := Option.some.inj hf; exact ⟨i6, rfl, F6, sc6, bi6 F6, He.glo_ok X G (c.fact 41 (f := .glo "lows")), by decide, ck6⟩
    | 7, hf => obtain rfl : ("low_row" : Str) = x := Option.some.inj hf; exact ⟨i7, rfl, F7, sc7, bi7 F7, He.glo_ok X G (c.fact 43 (f := .glo "low_row")), by decide, ck7⟩
    | 8, hf => obtain rfl : ("lowest_origin" : Str) = x := Option.some.inj hf; exact ⟨i8, rfl, F8, sc8, bi8 F8, He.glo_ok X G (c.fact 45 (f := .glo "lowest_origin")), by decide, ck8⟩
    | 9, hf => obtain rfl : ("check_origin" : Str) = x := Option.some.inj hf; exact ⟨i9, rfl, F9, sc9, bi9 F9, He.glo_ok X G (c.fact 47 (f := .glo "check_origin")), by decide, ck9⟩
    | 10, hf => obtain rfl : ("least_origin" : Str) = x := Option.some.inj hf; exact ⟨i10, rfl, F10, sc10, bi10 F10, He.glo_ok X G (c.fact 49 (f := .glo "least_origin")), by decide, ck10⟩
    | 11, hf => obtain rfl : ("is_origin" : Str) = x := Option.some.inj hf; exact ⟨i11, rfl, F11, sc11, bi11 F11, He.glo_ok X G (c.fact 51 (f := .glo "is_origin")), by decide, ck11⟩
    | 12, hf => obtain rfl : ("ways" : Str) = x := Option.some.inj hf; exact ⟨i12, rfl, F12, sc12, bi12 F12, He.glo_ok X G (c.fact 53 (f := .glo "ways")), by decide, ck12⟩
    | 13, hf => obtain rfl : ("row_holds" : Str) = x := Option.some.inj hf; exact ⟨i13, rfl, F13, sc13, bi13 F13, He.glo_ok X G (c.fact 55 (f := .glo "row_holds")), by decide, ck13⟩
    | 14, hf => obtain rfl : ("after" : Str) = x := Option.some.inj hf; exact ⟨i14, rfl, F14, sc14, bi14 F14, He.glo_ok X G (c.fact 57 (f := .glo "after")), by decide, ck14⟩
    | 15, hf => obtain rfl : ("count_origins" : Str) = x := Option.some.inj hf; exact ⟨i15, rfl, F15, sc15, bi15 F15, He.glo_ok X G (c.fact 59 (f := .glo "count_origins")), by decide, ck15⟩
    | 16, hf => obtain rfl : ("followed" : Str) = x := Option.some.inj hf; exact ⟨i16, rfl, F16, sc16, bi16 F16, He.glo_ok X G (c.fact 61 (f := .glo "followed")), by decide, ck16⟩
    | 17, hf => obtain rfl : ("rank_of_origin" : Str) = x := Option.some.inj hf; exact ⟨i17, rfl, F17, sc17, bi17 F17, He.glo_ok X G (c.fact 63 (f := .glo "rank_of_origin")), by decide, ck17⟩
    | 18, hf => obtain rfl : ("fitting" : Str) = x := Option.some.inj hf; exact ⟨i18, rfl, F18, sc18, bi18 F18, He.glo_ok X G (c.fact 65 (f := .glo "fitting")), by decide, ck18⟩
    | 19, hf => obtain rfl : ("are_enough" : Str) = x := Option.some.inj hf; exact ⟨i19, rfl, F19, sc19, bi19 F19, He.glo_ok X G (c.fact 67 (f := .glo "are_enough")), by decide, ck19⟩
    | 20, hf => obtain rfl : ("_law_start" : Str) = x := Option.some.inj hf; exact ⟨i20, rfl, F20, sc20, bi20 F20, He.glo_ok X G (c.fact 69 (f := .glo "_law_start")), by decide, ck20⟩
    | 21, hf => obtain rfl : ("_law_draw" : Str) = x := Option.some.inj hf; exact ⟨i21, rfl, F21, sc21, bi21 F21, He.glo_ok X G (c.fact 71 (f := .glo "_law_draw")), by decide, ck21⟩
    | 22, hf => obtain rfl : ("_law_pick" : Str) = x := Option.some.inj hf; exact ⟨i22, rfl, F22, sc22, bi22 F22, He.glo_ok X G (c.fact 73 (f := .glo "_law_pick")), by decide, ck22⟩
    | 23, hf => obtain rfl : ("_law_true" : Str) = x := Option.some.inj hf; exact ⟨i23, rfl, F23, sc23, bi23 F23, He.glo_ok X G (c.fact 75 (f := .glo "_law_true")), by decide, ck23⟩
    | 24, hf => obtain rfl : ("_law_row" : Str) = x := Option.some.inj hf; exact ⟨i24, rfl, F24, sc24, bi24 F24, He.glo_ok X G (c.fact 77 (f := .glo "_law_row")), by decide, ck24⟩
    | 25, hf => obtain rfl : ("law" : Str) = x := Option.some.inj hf; exact ⟨i25, rfl, F25, sc25, bi25 F25, He.glo_ok X G (c.fact 79 (f := .glo "law")), by decide, ck25⟩
    | n + 26, hf => exact absurd hf (by intro z; cases z)
  · exact fun z => absurd z Bool.false_ne_true
  · intro f x hf
    cases hf
  · intro f m hf
    cases hf
end
theorem at_ {l : PySem.W.OpenLaw} {w : World} {K : PySem.W.Frag} {mg : Str → Option Value} {h : Heap} {fa' : Addr} (cX : He.SaysE fa fn K) (X : K.In h) (G : h.Ns mainGlobals mg) (hmg : mg ("law" : Str) = some (.ref fa')) (k : Nat) (hr : ∀ ns : List Int, ns.length ≤ 63 → ∃ M, run T k 25 [.s ns] [] = some (.val (.d (.bool true)) M)) :
    LamX.LawAtS l w K (L2.CX l.prog w) (2 * k) 63 "_law_script" mg fa' h := by
  have c := cX
  obtain ⟨fd, B, hb⟩ := tb cX X G
  exact Wl.law_at B (f := 25) (y := ("law" : Str)) rfl rfl rfl rfl hmg (He.glo_ok X G (c.fact 79 (f := .glo "law"))) hb hr
end Law


open PySem PySem.W PySem.Calls PyProof.Rows
theorem PySem.Challenge.cw_windowlows_k11_whole_lesser_holds : PySem.Challenge.rw_windowlows_k11_whole_lesser.Holds := by
  w_on; o_law
  refine HandSHeadRun.head_any (r := OpenLaw.row PySem.Challenge.rw_windowlows_k11_whole_lesser) (q := view (OpenLaw.row PySem.Challenge.rw_windowlows_k11_whole_lesser).prog [38]) (H := Law.hk) (ob := Law.ob) (M := Law.steps) (loose := Law.names) (d := HandSHeadRun.topDef (OpenLaw.row PySem.Challenge.rw_windowlows_k11_whole_lesser).prog 38) (kwd := []) Law.ob_eq
    (by kernel_rfl) (fun s => by kernel_rfl) Law.hrun (by kernel_rfl) (by kernel_rfl) (by kernel_rfl) (by rfl) (by first | assumption | decide +kernel) (by decide +kernel) ⟨rfl, rfl, rfl, rfl, rfl, by decide +kernel⟩ ?hw ?hc
  case hw => w_witness2
  case hc =>
    refine LamX.walk_ofTsE (l := PySem.Challenge.rw_windowlows_k11_whole_lesser) (n := 63) (k := 2 * Law.fuel) (x := "_law_script") (CX := fun w => L2.CX (PySem.Challenge.rw_windowlows_k11_whole_lesser).prog w) rfl (by decide) (by kernel_rfl) ⟨rfl, by decide, by decide⟩ ?F (fun _ _ _ _ _ z => ?G)
    case F =>
      intro w mg fa h Y G hmg0
      obtain ⟨K, KX, c⟩ := Y
      have hmg : mg ("law" : PySem.Str) = some (.ref fa) := by
        have e : (HandSHeadRun.topDef (OpenLaw.row PySem.Challenge.rw_windowlows_k11_whole_lesser).prog 38).name = ("law" : PySem.Str) := by kernel_rfl
        rw [← e]
        exact hmg0
      exact ⟨K, KX, Law.at_ c KX G hmg Law.fuel Law.holds⟩
    case G => exact Wl.noexc z
#print axioms PySem.Challenge.cw_windowlows_k11_whole_lesser_holds

