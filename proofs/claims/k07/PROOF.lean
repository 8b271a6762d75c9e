import PyProof.Rows.All
import Wide.All
import OpenK.AllK
import Wide.FinOn
import HandS.ForMost
import HandS.Exc
import HandS.ExcOwn
import HandS.WordsExc
import HandS.IsInst
import HandS.DictComp
import KE.KDictKeyed
import HandS.CallLocal
import HandS.ExcInit
import KE.KExcSuper
import KE.KExcMake
import HandS.ClsMeth
import HandS.ExcField
import HandS.ExcIs
import HandS.TryOnly
import HandS.HeadHook4
import HandS.HeadNt
import HandS.HeadHook3
import HandS.More
import HandS.TupAny
import HandS.Deep
import HandS.SortInts
import HandS.NoneIn
import KE.SortData
import HandS.Conv
import HandS.Zip0
import KE.KDictZip
import HandS.Defaults
import HandS.TupLe
import HandS.Iter
import HandS.Set
import HandS.TupSets
import HandS.Zip
import PyProof.Transfer
import HandS.DictTup
import KE.KDictList
import HandS.SetKeys
import HandS.Text
import KE.KDictPairs
import HandS.TupLen
import KE.KDictWalk
import HandS.Head0
import HandS.Head1
import HandS.Head2
import HandS.HeadEnd
import HandS.HeadHook1
import HandS.HeadHook2
import HandS.Head3
import PySem.Challenge.RW_chiplore_k07_whole_facts_of_designs
set_option Elab.async false
set_option linter.all false
set_option maxRecDepth 100000
set_option maxHeartbeats 0
namespace DL
open PySem PySem.Spec L2
section
variable {β γ : Type}
def vN : List (NestedKey × β) → NestedKey → Option β
  | [], _ => none
  | (k', x) :: r, k => if k' = k then some x else vN r k
def pN (f : β → β) (n : β) (l : List (NestedKey × β)) (k : NestedKey) : List (NestedKey × β) :=
  if (vN l k).isSome = true then l.map (fun p => if p.1 = k then (p.1, f p.2) else p) else l ++ [(k, n)]
theorem pN_len (f : β → β) (n : β) (l : List (NestedKey × β)) (k : NestedKey) : (pN f n l k).length ≤ l.length + 1 := by
  unfold pN
  split
  · rw [List.length_map]; omega
  · simp
theorem paired_vN {R : NestedKey × β → NestedKey × γ → Prop} (hk : ∀ p q, R p q → p.1 = q.1) {k : NestedKey} : ∀ {l : List (NestedKey × β)} {m : List (NestedKey × γ)}, Paired R l m → (vN l k = none ∧ vN m k = none) ∨ ∃ x y, vN l k = some x ∧ vN m k = some y ∧ R (k, x) (k, y)
  | _, _, .nil => .inl ⟨rfl, rfl⟩
  | (k1, x) :: _, (k2, y) :: _, .cons h t => by
    obtain rfl : k1 = k2 := hk _ _ h
    unfold vN
    by_cases e : k1 = k
    · rw [if_pos e, if_pos e]
      exact .inr ⟨x, y, rfl, rfl, e ▸ h⟩
    · rw [if_neg e, if_neg e]
      exact paired_vN hk t
theorem paired_map {R : NestedKey × β → NestedKey × γ → Prop} (hk : ∀ p q, R p q → p.1 = q.1) {k : NestedKey} {f : β → β} {g : γ → γ} (hf : ∀ x y, R (k, x) (k, y) → R (k, f x) (k, g y)) :
    ∀ {l : List (NestedKey × β)} {m : List (NestedKey × γ)}, Paired R l m → Paired R (l.map fun p => if p.1 = k then (p.1, f p.2) else p) (m.map fun p => if p.1 = k then (p.1, g p.2) else p)
  | _, _, .nil => .nil
  | (k1, x) :: _, (k2, y) :: _, .cons h t => by
    obtain rfl : k1 = k2 := hk _ _ h
    rw [List.map_cons, List.map_cons]
    refine .cons ?_ (paired_map hk hf t)
    by_cases e : k1 = k
    · subst e
      rw [if_pos rfl, if_pos rfl]
      exact hf _ _ h
    · rw [if_neg e, if_neg e]
      exact h
theorem paired_pN {R : NestedKey × β → NestedKey × γ → Prop} (hk : ∀ p q, R p q → p.1 = q.1) {k : NestedKey} {f : β → β} {g : γ → γ} {n : β} {n' : γ} (hf : ∀ x y, R (k, x) (k, y) → R (k, f x) (k, g y)) (hn : R (k, n) (k, n'))
    {l : List (NestedKey × β)} {m : List (NestedKey × γ)} (h : Paired R l m) : Paired R (pN f n l k) (pN g n' m k) := by
  unfold pN
  rcases paired_vN hk (k := k) h with ⟨e1, e2⟩ | ⟨x, y, e1, e2, _⟩
  · rw [e1, e2, if_neg (by simp), if_neg (by simp)]
    exact Paired.snoc h hn
  · rw [e1, e2, if_pos (by simp), if_pos (by simp)]
    exact paired_map hk hf h
end
theorem atKey_vN (k : NestedKey) : ∀ ys : List (NestedKey × Addr × Value), atKey ys k = vN ys k
  | [] => rfl
  | (k', p) :: r => by
    have ih := atKey_vN k r
    unfold vN
    by_cases e : k' = k
    · rw [if_pos e]; simp [atKey, e]
    · rw [if_neg e, ← ih]; simp [atKey, e]
theorem stored_pN (ys : List (NestedKey × Addr × Value)) (k : NestedKey) (b : Addr) (u : Value) : storedH ys k b u = pN (fun p => (p.1, u)) (b, u) ys k := by
  unfold storedH pN
  rw [atKey_vN]
  split
  · refine List.map_congr_left fun x _ => ?_
    unfold putAt
    rfl
  · rfl
/-- the keys and values at the dict, by where the keys stand -/
abbrev XN := List (NestedKey × Addr × V)
abbrev YN := List (NestedKey × Addr × Value)
def RKN (p : NestedKey × Addr × V) (q : NestedKey × Addr × Value) : Prop := p.1 = q.1 ∧ p.2.1 = q.2.1 ∧ RelV p.2.2 q.2.2
abbrev KN : XN → YN → Prop := Paired RKN
def entN (w : World) (x : NestedKey × Addr × Value) : DictEntry := ⟨x.1.hash w, .ref x.2.1, x.2.2⟩
/-- what is true of the object of a dict with nested keys -/
def NPhi (w : World) (a : Addr) (xs : XN) (h : Heap) : Prop := xs.length ≤ sizeLine ∧ (a == sysModules) = false ∧ ∃ ys : YN, KN xs ys ∧ ∃ o es ep, h.get? a = some o ∧ o.ExactDict ∧ o.data = .dict es ep ∧ es.toList = ys.map (entN w) ∧ (ys.map (·.1)).Nodup
def NObj (w : World) (a : Addr) (xs : XN) : HO := .ext (NPhi w a xs)
section
variable {P : Program} {w : World} {H : Hp} {h : Heap} {a : Addr} {xs : XN}
theorem nobj_ok (p : NPhi w a xs h) : ObjOk P w H h a (NObj w a xs) := by
  refine ⟨p, ?_, fun h1 h2 q k => ?_⟩
  · obtain ⟨_, _, _, _, o, _, _, e, _⟩ := p
    exact ⟨o, e⟩
  · obtain ⟨z, y, ys, r, o, es, ep, e, c⟩ := q
    exact ⟨z, y, ys, r, o, es, ep, k _ e, c⟩
theorem nobj_of (ok : HOk P w H h) (e : H a = some (NObj w a xs)) : NPhi w a xs h := (show ObjOk P w H h a (NObj w a xs) from ok a _ e).1
end
mutual
inductive NK (K : PySem.W.Frag) (H : Hp) : NestedKey → V → Prop
  | none : NK K H .none .non
  | bool {b : Bool} {i : Int} : i = (if b = true then 1 else 0) → NK K H (.num i) (.bl b)
  | int (i : Int) : NK K H (.num i) (.int i)
  | text (x : Str) : NK K H (.text x) (.str x)
  | tup {a : Addr} {xs : List V} {ks : List NestedKey} : SqT K H a xs → NKs K H ks xs → NK K H (.tup ks) (.ref a)
inductive NKs (K : PySem.W.Frag) (H : Hp) : List NestedKey → List V → Prop
  | nil : NKs K H [] []
  | cons {k : NestedKey} {v : V} {ks : List NestedKey} {vs : List V} : NK K H k v → NKs K H ks vs → NKs K H (k :: ks) (v :: vs)
end
section
variable {X : Cx} {pins : List (Addr × Obj)} {σ : L2.St} {H : Hp} {s : Shared}
mutual
theorem NK.is (I : Inv X pins σ H s) : ∀ (k : NestedKey) (v : V) (u : Value), NK X.K H k v → RelV v u → NestedIs s.heap k u
  | .none, _, u, h, r => by
    cases h
    cases (show u = Value.none from r)
    exact .none
  | .num i, _, u, h, r => by
    cases h with
    | @bool b _ e =>
      cases (show u = Value.bool b from r)
      exact .bool e
    | int _ =>
      obtain ⟨t, rfl⟩ := (show ∃ t, u = Value.int i t from r)
      exact .int _ _
  | .text x, _, u, h, r => by
    cases h
    obtain ⟨t, rfl⟩ := (show ∃ t, u = Value.str x t from r)
    exact .text _ _
  | .tup ks, _, u, h, r => by
    cases h with
    | @tup a xs _ h1 h2 =>
      cases (show u = Value.ref a from r)
      obtain ⟨its, rv, ⟨o, e1, e2, n, e3⟩, _⟩ := I.tuple h1
      exact .tup e1 e2 e3 (by simpa using NKs.is I ks xs its h2 rv)
theorem NKs.is (I : Inv X pins σ H s) : ∀ (ks : List NestedKey) (vs : List V) (us : List Value), NKs X.K H ks vs → Vals vs us → NestedAll s.heap ks us
  | [], _, _, h, r => by
    cases h
    cases r
    exact .nil
  | k :: ks, _, _, h, r => by
    cases h with
    | cons h1 h2 =>
      cases r with
      | cons r1 r2 => exact .cons (NK.is I k _ _ h1 r1) (NKs.is I ks _ _ h2 r2)
end
end
/-- a key that can stand in such a dict -/
def KeyN (K : PySem.W.Frag) (H : Hp) (k : NestedKey) (v : V) : Prop := NK K H k v ∧ k.depth ≤ 8 ∧ ∃ ks, k = .tup ks
theorem KeyN.ref {K : PySem.W.Frag} {H : Hp} {k : NestedKey} {v : V} (h : KeyN K H k v) : ∃ b, v = .ref b := by
  obtain ⟨h, _, ks, rfl⟩ := h
  cases h
  exact ⟨_, rfl⟩
/-- at a stands such a dict -/
def NAt (K : PySem.W.Frag) (w : World) (H : Hp) (a : Addr) (xs : XN) : Prop := H a = some (NObj w a xs) ∧ ∀ x ∈ xs, KeyN K H x.1 (.ref x.2.1)
section
variable {X : Cx} {pins : List (Addr × Obj)} {σ : L2.St} {H : Hp} {s : Shared} {a : Addr} {xs : XN} {k : NestedKey} {y v : V} {u r : Value} {A : Around} {E : Value → Shared → Prop}
theorem KeyN.is (I : Inv X pins σ H s) {b : Addr} (h : KeyN X.K H k (.ref b)) : (nestedKind X.prog X.w).is s.heap k b := ⟨NK.is I _ _ _ h.1 rfl, h.2.1⟩
theorem kn_keys {w : World} : ∀ {xs : XN} {ys : YN}, KN xs ys → ∀ y ∈ ys, ∃ x ∈ xs, x.1 = y.1 ∧ x.2.1 = y.2.1
  | _, _, .nil, y, hy => nomatch hy
  | x :: _, z :: _, .cons h t, y, hy => by
    rcases List.mem_cons.mp hy with e | hy
    · subst e
      exact ⟨x, List.mem_cons_self, h.1, h.2.1⟩
    · obtain ⟨x', hx, q⟩ := kn_keys (w := w) t y hy
      exact ⟨x', List.mem_cons_of_mem _ hx, q⟩
theorem nat_of (I : Inv X pins σ H s) (h : NAt X.K X.w H a xs) : xs.length ≤ sizeLine ∧ (a == sysModules) = false ∧ ∃ ys, KN xs ys ∧ s.heap.DictOfH (nestedKind X.prog X.w) a ys := by
  obtain ⟨z, y, ys, r, o, es, ep, h1, h2, h3, h4, h5⟩ := nobj_of I.hok h.1
  refine ⟨z, y, ys, r, o, es, ep, h1, h2, h3, h4, fun p hp => ?_, h5⟩
  obtain ⟨x, hx, e1, e2⟩ := kn_keys (w := X.w) r p hp
  rw [← e1, ← e2]
  exact (h.2 x hx).is I
theorem room8 {A : Around} (hu : A.units + 9 < cLine) : (nestedKind X.prog X.w).room A.in1 := show A.in1.units + 8 < cLine by rw [Around.in1_units]; omega
theorem n_getItem {Q : Value → Shared → Prop} {b0 : Addr} (hu : A.units + 9 < cLine) (I : Inv X pins σ H s) (g : NAt X.K X.w H a xs) (hk : KeyN X.K H k y) (ry : RelV y u) (hv : vN xs k = some (b0, v)) (h : ∀ w' s', Inv X pins σ H s' → RelV v w' → Q w' s') :
    wpAny (model X.prog X.w) A (getItem (.ref a) u) Q E s := by
  obtain ⟨b, rfl⟩ := hk.ref
  cases (show u = Value.ref b from ry)
  obtain ⟨z, hd, ys, rel, dd⟩ := nat_of I g
  rcases paired_vN (fun p q h => h.1) (k := k) rel with ⟨e1, _⟩ | ⟨x, p, e1, e2, e3⟩
  · rw [e1] at hv; cases hv
  · rw [e1] at hv; cases hv
    exact wpAny_getItem_heap (room8 (X := X) hu) (hk.is I) dd (by rw [atKey_vN]; exact e2) (h _ _ (I.tok _) e3.2.2)
theorem n_in {Q : Value → Shared → Prop} (hu : A.units + 9 < cLine) (I : Inv X pins σ H s) (g : NAt X.K X.w H a xs) (hk : KeyN X.K H k y) (ry : RelV y u) (h : ∀ s', Inv X pins σ H s' → Q (.bool (vN xs k).isSome) s') :
    wpAny (model X.prog X.w) A (compareOp .In u (.ref a)) Q E s := by
  obtain ⟨b, rfl⟩ := hk.ref
  cases (show u = Value.ref b from ry)
  obtain ⟨z, hd, ys, rel, dd⟩ := nat_of I g
  refine wpAny_in_heap (room8 (X := X) hu) (hk.is I) hd dd ?_
  have e : (atKey ys k).isSome = (vN xs k).isSome := by
    rw [atKey_vN]
    rcases paired_vN (fun p q h => h.1) (k := k) rel with ⟨e1, e2⟩ | ⟨x, p, e1, e2, e3⟩ <;> rw [e1, e2] <;> rfl
  rw [e]
  exact h _ (I.tok _)
theorem n_notIn {Q : Value → Shared → Prop} (hu : A.units + 9 < cLine) (I : Inv X pins σ H s) (g : NAt X.K X.w H a xs) (hk : KeyN X.K H k y) (ry : RelV y u) (h : ∀ s', Inv X pins σ H s' → Q (.bool (!(vN xs k).isSome)) s') :
    wpAny (model X.prog X.w) A (compareOp .NotIn u (.ref a)) Q E s := by
  obtain ⟨b, rfl⟩ := hk.ref
  cases (show u = Value.ref b from ry)
  obtain ⟨z, hd, ys, rel, dd⟩ := nat_of I g
  refine PyProof.Rows.wpAny_notIn_heap (room8 (X := X) hu) (hk.is I) hd dd ?_
  have e : (atKey ys k).isSome = (vN xs k).isSome := by
    rw [atKey_vN]
    rcases paired_vN (fun p q h => h.1) (k := k) rel with ⟨e1, e2⟩ | ⟨x, p, e1, e2, e3⟩ <;> rw [e1, e2] <;> rfl
  rw [e]
  exact h _ (I.tok _)
/-- d[k] = v on the table -/
def putX (xs : XN) (k : NestedKey) (b : Addr) (v : V) : XN := pN (fun p => (p.1, v)) (b, v) xs k
theorem n_write {h' : Heap} {t' : Nat} {b : Addr} (I : Inv X pins σ H s) (mu : Mut (H a)) (hl : xs.length < sizeLine) (hd : (a == sysModules) = false) {ys : YN} (rel : KN xs ys) (rv : RelV v r)
    (dd' : h'.DictOfH (nestedKind X.prog X.w) a (storedH ys k b r)) (hs : Heap.SameBut a s.heap h') : Inv X pins σ (upd H a (NObj X.w a (putX xs k b v))) { s with heap := h', toks := t' } := by
  obtain ⟨q, es, ep, hq, h2, h3, h4, _, h5⟩ := dd'
  have hl' : (putX xs k b v).length ≤ sizeLine := by
    have := pN_len (fun p => (p.1, v)) (b, v) xs k
    unfold putX
    omega
  refine d_write I mu hs ⟨q, hq⟩ (nobj_ok ⟨hl', hd, _, ?_, q, es, ep, hq, h2, h3, h4, h5⟩)
  rw [stored_pN]
  exact paired_pN (fun p q h => h.1) (fun x y z => ⟨z.1, z.2.1, rv⟩) ⟨rfl, rfl, rv⟩ rel
theorem mut_n {w : World} (e : H a = some (NObj w a xs)) : Mut (H a) := by rw [e]; exact True.intro
theorem n_setItem {Q : Unit → Shared → Prop} {b : Addr} (hu : A.units + 9 < cLine) (I : Inv X pins σ H s) (g : NAt X.K X.w H a xs) (hl : xs.length < sizeLine) (hk : KeyN X.K H k (.ref b)) (rv : RelV v r)
    (h : ∀ s', Inv X pins σ (upd H a (NObj X.w a (putX xs k b v))) s' → Q () s') : wpAny (model X.prog X.w) A (setItem (.ref a) (.ref b) r) Q E s := by
  obtain ⟨z, hd, ys, rel, dd⟩ := nat_of I g
  have hz : ys.length ≤ sizeLine := by rw [← Paired.length rel]; exact z
  exact wpAny_setItem_heap (hsz := hz) (room8 (X := X) hu) (hk.is I) dd fun h' dd' hs => h _ (n_write I (mut_n g.1) hl hd rel rv dd' hs)
theorem n_typeIs (I : Inv X pins σ H s) (g : NAt X.K X.w H a xs) : s.TypeIs (.ref a) "dict" := by
  obtain ⟨z, hd, ys, rel, dd⟩ := nat_of I g
  exact dd.typeIs
theorem n_empty {P : Program} {w : World} {H : Hp} (h : Heap) (hb : sysModules < h.objs.size) : ObjOk P w H (h.push { cls := .type "dict", data := .dict #[] }) h.objs.size (NObj w h.objs.size []) :=
  nobj_ok ⟨Nat.zero_le _, beq_eq_false_iff_ne.mpr (Ne.symm (Nat.ne_of_lt hb)), [], .nil, _, #[], 0, Heap.get?_push_size _ rfl, ⟨rfl, rfl, rfl⟩, rfl, rfl, List.nodup_nil⟩
end
def tNGet (K : PySem.W.Frag) (w : World) (td ty : TE) : TE := fun σ H Q => td σ H fun x H1 => ty σ H1 fun y H2 => ∃ a xs k b0 v, x = .ref a ∧ NAt K w H2 a xs ∧ KeyN K H2 k y ∧ vN xs k = some (b0, v) ∧ Q v H2
def rNIn (K : PySem.W.Frag) (w : World) (neg : Bool) : R2 := fun y x H Q => ∃ a xs k, x = .ref a ∧ NAt K w H a xs ∧ KeyN K H k y ∧ Q (.bl (if neg then !(vN xs k).isSome else (vN xs k).isSome)) H
def sNPut (K : PySem.W.Frag) (w : World) (td ty tv : TE) : TS := fun D σ H => tv σ H fun v H1 => td σ H1 fun x H2 => ty σ H2 fun y H3 => ∃ a xs k b, x = .ref a ∧ y = .ref b ∧ NAt K w H3 a xs ∧ KeyN K H3 k y ∧ xs.length < sizeLine ∧ D.nx σ (upd H3 a (NObj w a (putX xs k b v)))
section
variable {X : Cx} {o i e value : Expr} {pos pos' : Pos} {td ty tv : TE}
theorem pe_nget (hu : X.A.units + 9 < cLine) (ho : PE X o td) (hi : PE X i ty) (hs : NoSl i) : PE X (.Subscript o i pos) (tNGet X.K X.w td ty) := by
  refine ⟨fun pins s σ H Q I h => ?_⟩
  refine subD_of PySem.F.slot_dict_getitem.lookup hs (thn (ho.run pins s σ H _ I h) fun u s1 ⟨x, H1, I1, rx, q1⟩ => thn (hi.run pins s1 σ H1 _ I1 q1) fun iv s2 ⟨y, H2, I2, ry, a, xs, k, b0, v, ex, g, hk, hv, q2⟩ => ?_)
  subst ex
  obtain rfl : u = Value.ref a := rx
  exact ⟨n_typeIs I2 g, n_getItem hu I2 g hk ry hv fun w' s3 I3 rw' => ⟨v, H2, I3, rw', q2⟩⟩
theorem op_nin (hu : X.A.units + 9 < cLine) : OpR X (compareOp .In) (rNIn X.K X.w false) := by
  intro pins s σ H x y v u Q I rx ry h
  obtain ⟨a, xs, k, rfl, g, hk, q⟩ := h
  obtain rfl : u = Value.ref a := ry
  exact n_in hu I g hk rx fun s3 I3 => ⟨.bl (vN xs k).isSome, H, I3, rfl, q⟩
theorem op_nnin (hu : X.A.units + 9 < cLine) : OpR X (compareOp .NotIn) (rNIn X.K X.w true) := by
  intro pins s σ H x y v u Q I rx ry h
  obtain ⟨a, xs, k, rfl, g, hk, q⟩ := h
  obtain rfl : u = Value.ref a := ry
  exact n_notIn hu I g hk rx fun s3 I3 => ⟨.bl (!(vN xs k).isSome), H, I3, rfl, q⟩
theorem ps_nput (hu : X.A.units + 9 < cLine) (ho : PE X o td) (hi : PE X i ty) (hv : PE X value tv) (hs : swapsWith value (some (.Subscript o i pos')) pos.line X.env = pure false) :
    PS X (.Assign [.Subscript o i pos'] value pos) (sNPut X.K X.w td ty tv) := by
  refine ⟨fun pins s σ H D I h => ?_⟩
  refine wpAny_Assign_Subscript (thn (hv.run pins s σ H _ I h) fun r s1 ⟨v, H1, I1, rv, q1⟩ => thn (ho.run pins s1 σ H1 _ I1 q1) fun u s2 ⟨x, H2, I2, rx, q2⟩ => thn (hi.run pins s2 σ H2 _ I2 q2) fun iv s3 ⟨y, H3, I3, ry, a, xs, k, b, ex, ey, g, hk, hl, q3⟩ => ?_) hs
  subst ex ey
  obtain rfl : u = Value.ref a := rx
  obtain rfl : iv = Value.ref b := ry
  exact n_setItem hu I3 g hl hk rv fun s4 I4 => ⟨σ, _, I4, q3⟩
def tDNewN (w : World) : TE := fun _ H Q => ∀ p, H p = none → Q (.ref p) (upd H p (NObj w p []))
theorem pe_dnewN : PE X (.Dict [] [] pos) (tDNewN X.w) := ⟨fun pins s σ H Q I h =>
  wpAny_Dict_empty ⟨.ref s.heap.objs.size, _, I.laid (a := s.heap.objs.size) (o := NObj X.w s.heap.objs.size []) (t' := s.toks) (fun _ _ q => Heap.get?_push_of_some _ q) (Nat.le_refl _) (n_empty s.heap I.big), rfl, h _ (I.hok.fresh (Nat.le_refl _))⟩⟩
end
end DL
namespace DL
open PySem PySem.Spec PyProof.Rows L2
section
variable {X : Cx} {pins : List (Addr × Obj)} {σ : L2.St} {H : Hp} {s : Shared} {E : Value → Shared → Prop} {D b : Addr} {xs : XN} {k : NestedKey} {v : V} {r : Value}
theorem n_dictSet {Q : Unit → Shared → Prop} (hu : X.A.units + 9 < cLine) (I : Inv X pins σ H s) (g : NAt X.K X.w H D xs) (hl : xs.length < sizeLine) (hk : KeyN X.K H k (.ref b)) (rv : RelV v r)
    (h : ∀ s', Inv X pins σ (upd H D (NObj X.w D (putX xs k b v))) s' → Q () s') : wpAny (model X.prog X.w) X.A (dictSet D (.ref b) r) Q E s := by
  obtain ⟨z, hd, ys, rel, dd⟩ := nat_of I g
  have hz : ys.length ≤ sizeLine := by rw [← Paired.length rel]; exact z
  exact wpAny_dictSet_heap (hsz := hz) (show X.A.units + 8 < cLine by omega) (hk.is I) dd fun h' dd' hs => h _ (n_write I (mut_n g.1) hl hd rel rv dd' hs)
end
section
variable {X : Cx}
/-- {k: v for target in iter if ..}, keys nested tuples: D the new dict -/
def tDcN (K : PySem.W.Frag) (w : World) (wi : TI) (g : TG) (tt : TT) (tk tv : TE) (vs : List Nat) : TE := fun σ H Q => wi σ H fun J H1 => ∀ D, H1 D = none → ∃ W : Nat → Nat → Hp → Prop, (∃ m, W 0 m (upd H1 D (NObj w D []))) ∧ ∀ i m H, W i m H →
  (J.stop i H ∧ Q (.ref D) H) ∨ (J.go i H ∧ ∃ Nx : Hp → Prop, (∀ H', Nx H' → ∃ m', m' < m ∧ W (i + 1) m' H') ∧ ∀ x H', J.yld i H x H' → g x (wipe σ vs) H' fun σ2 H2 => wipe σ2 vs = wipe σ vs ∧ tt σ2 H2 fun c H3 =>
    if c = true then tk σ2 H3 fun y H4 => tv σ2 H4 fun z H5 => ∃ xs k b, y = .ref b ∧ NAt K w H5 D xs ∧ KeyN K H5 k y ∧ xs.length < sizeLine ∧ Nx (upd H5 D (NObj w D (putX xs k b z))) else Nx H3)
theorem dcn_core {pins : List (Addr × Obj)} {s : Shared} {σ : L2.St} {H : Hp} {Q : VK} {kx vx tg iter : Expr} {ifs : List Expr} {scope : Scope} {own : List (Str × Nat)} {pos pos' : Pos} {wi : TI} {g : TG} {tt : TT} {tk tv : TE} {use : Option (Value → Sem Unit)} {Qf : Value → Shared → Prop}
    (hu : X.A.units + 9 < cLine) (hc : X.calm = true) (hN : X.N.Nodup) (I : Inv X pins σ H s) (hi : PI X tg iter wi) (ok : BlkOk X.N X.env.scope scope own)
    (hg : ∀ (s : Shared) (H : Hp) (C : Addr) (cl : List (Str × Addr)) (fp : List Addr), PG (X.blk s H scope (compEnvC scope cl C X.env) fp) tg g) (ht : ∀ (s : Shared) (H : Hp) (C : Addr) (cl : List (Str × Addr)) (fp : List Addr), PTs (X.blk s H scope (compEnvC scope cl C X.env) fp) ifs tt)
    (hk : ∀ (s : Shared) (H : Hp) (C : Addr) (cl : List (Str × Addr)) (fp : List Addr), PE (X.blk s H scope (compEnvC scope cl C X.env) fp) kx tk)
    (he : ∀ (s : Shared) (H : Hp) (C : Addr) (cl : List (Str × Addr)) (fp : List Addr), PE (X.blk s H scope (compEnvC scope cl C X.env) fp) vx tv) (hs : ∀ x, foldedSetIterable iter X.env x = pure x)
    (h : tDcN X.K X.w wi g tt tk tv (own.map (·.2)) σ H Q)
    (hRR : ∀ D C s' m H', Inv X pins σ H' s' → Q (.ref D) H' → s'.heap.Ns C m → FpOk X pins H' C → compPost (model X.prog X.w) X.A X.xe use Qf (.ref D) C (.ok .next) s') :
    wpAny (model X.prog X.w) X.A (comprehension (.DictComp kx vx [⟨tg, iter, ifs, 0⟩] scope pos) scope X.env pos' newDict false (eval iter X.env) use) Qf X.xe s := by
  have hfree : ∀ y ∈ scope.names, y.2 = .free → ∃ c, X.env.cells.lookup y.1 = some c := fun y hy e => (ok.free y hy e).elim (fun q => I.ok.has _ (.inl q)) fun q => I.ok.has _ (.inr q)
  refine wpAny_comprehension_free (use := use) rfl hs (closure_ok hfree) ok.kind (fun y hy e => by rw [ok.uniq y hy, e])
    (thn (hi.run pins s σ H _ I h) fun xv s1 hx => thn hx fun itv s2 h2 => ?_)
  obtain ⟨it, fp, tn, J, H2, e, I2, T, st2, f2, q⟩ := h2
  subst e
  refine wpAny_newObj_type (newEnv_comp ?_)
  generalize hD : s2.heap.objs.size = D
  have hDn : H2 D = none := I2.hok.fresh (Nat.le_of_eq hD)
  obtain ⟨W, ⟨m0, w0⟩, turn⟩ := q D hDn
  generalize hs3 : ({ s2 with heap := s2.heap.push { cls := .type "dict", data := .dict #[] } } : Shared) = s3
  have I3 : Inv X pins σ (upd H2 D (NObj X.w D [])) s3 := by
    rw [← hs3]
    refine I2.laid (t' := s2.toks) (fun b o e => Heap.get?_push_of_some _ e) (Nat.le_of_eq hD) ?_
    rw [← hD]
    exact n_empty s2.heap I2.big
  have h3 : s3.heap = s2.heap.push { cls := .type "dict", data := .dict #[] } := by rw [← hs3]
  have sz : ∀ b ∈ fp, b < s2.heap.objs.size := fun b hb => by
    obtain ⟨o, e, _⟩ := T.obj _ _ st2 b hb
    exact Heap.lt_size e
  have f3 : ∀ b ∈ fp, FpOk X pins (upd H2 D (NObj X.w D [])) b ∧ b < s3.heap.objs.size := fun b hb => by
    have hlt := sz b hb
    refine ⟨⟨?_, (f2 b hb).2⟩, by rw [h3, Heap.size_push]; exact Nat.lt_succ_of_lt hlt⟩
    rw [upd_ne (by rw [← hD]; exact Nat.ne_of_lt hlt)]
    exact (f2 b hb).1
  have st3 : tn 0 s3.heap := T.keep _ _ _ st2 fun b _ o e => by rw [h3]; exact Heap.get?_push_of_some _ e
  have I4 := block_start I3 ok hN f3
  have pg := hg s3 (upd H2 D (NObj X.w D [])) s3.heap.objs.size (cellsFrom (s3.heap.objs.size + 1) scope.names (cloFrom X.env.cells scope.names [])) fp
  have pt := ht s3 (upd H2 D (NObj X.w D [])) s3.heap.objs.size (cellsFrom (s3.heap.objs.size + 1) scope.names (cloFrom X.env.cells scope.names [])) fp
  have pk := hk s3 (upd H2 D (NObj X.w D [])) s3.heap.objs.size (cellsFrom (s3.heap.objs.size + 1) scope.names (cloFrom X.env.cells scope.names [])) fp
  have pe := he s3 (upd H2 D (NObj X.w D [])) s3.heap.objs.size (cellsFrom (s3.heap.objs.size + 1) scope.names (cloFrom X.env.cells scope.names [])) fp
  show codeAny _ _ (.compStart (.DictComp kx vx [⟨tg, iter, ifs, 0⟩] scope pos) 0 (.ref it) (.ref D) (compEnvC scope (cellsFrom (s3.heap.objs.size + 1) scope.names (cloFrom X.env.cells scope.names [])) s3.heap.objs.size X.env)) (compPost (model X.prog X.w) X.A X.xe use Qf (.ref D) s3.heap.objs.size) { s3 with heap := pushCells (s3.heap.push { cls := .type "dict", data := .dict #[] }) scope.names }
  have nfp : ∀ b ∈ fp, (upd H2 D (NObj X.w D [])) b = none := fun b hb => (f3 b hb).1.1
  generalize hce : compEnvC scope (cellsFrom (s3.heap.objs.size + 1) scope.names (cloFrom X.env.cells scope.names [])) s3.heap.objs.size X.env = ce at I4 pg pt pk pe ⊢
  have cL : ce.locals = s3.heap.objs.size := by subst hce; rfl
  generalize hH3 : upd H2 D (NObj X.w D []) = H3 at I3 I4 pg pt pk pe w0 nfp f3
  generalize hs4 : ({ s3 with heap := pushCells (s3.heap.push { cls := .type "dict", data := .dict #[] }) scope.names } : Shared) = s4 at I4 ⊢
  have st4 : tn 0 s4.heap := T.keep _ _ _ st3 fun b _ o e => by rw [← hs4]; exact pushCells_keeps _ _ _ _ (Heap.get?_push_of_some _ e)
  have stat : ∀ {σ' : L2.St} {H' : Hp} {s' : Shared}, Inv (X.blk s3 H3 scope ce fp) [] σ' H' s' → (∀ b ∈ fp, H' b = none) → ∀ b ∈ fp, FpOk (X.blk s3 H3 scope ce fp) [] H' b := fun {σ' H' s'} I' hn b hb =>
    ⟨hn b hb, (I'.ok.exf b hb).1, I'.ok.exfs b hb, .inl hb, fun x c e => (I'.ok.exf b hb).2 x c e, fun p hp => absurd (show p ∈ ([] : List (Addr × Obj)) ++ [] from hp) (by simp)⟩
  have loop : codeAny (model X.prog X.w) X.A (.compLoop (.DictComp kx vx [⟨tg, iter, ifs, 0⟩] scope pos) 0 (.ref it) (.ref D) ce) (compPost (model X.prog X.w) X.A X.xe use Qf (.ref D) s3.heap.objs.size) s4 := by
    refine compLoop_anyD (fun n s' => ∃ i H', Inv (X.blk s3 H3 scope ce fp) [] (wipe σ (own.map (·.2))) H' s' ∧ tn i s'.heap ∧ (∀ b ∈ fp, H' b = none) ∧ W i n H') ?_ m0 ⟨0, H3, I4, st4, nfp, w0⟩
    rintro n s5 ⟨i, H5, I5, st5, n5, w5⟩
    rcases turn i n H5 w5 with ⟨stop, qq⟩ | ⟨go, Nx, hNx, step⟩
    · have td := T.done (X.blk s3 H3 scope ce fp) rfl rfl rfl hc i [] s5 _ H5 (fun _ _ => False) I5 (stat I5 n5) st5 stop
      refine thnF td fun r s6 ⟨hr, I6⟩ => ?_
      subst hr
      have I7 : Inv X pins σ H5 s6 := I3.call' (ch := fp) I6.os I6.base I6.hok I6.bare fun b hb => ⟨(f3 b hb).1.2.2.2.1, (f3 b hb).1.2.1, (f3 b hb).1.2.2.2.2.1, (f3 b hb).1.2.2.2.2.2⟩
      have nC : H5 s3.heap.objs.size = none := by
        have z : H5 ce.locals = none := I6.free
        rw [cL] at z
        exact z
      obtain ⟨m, hn, _⟩ := I6.loc
      have hn : s6.heap.Ns ce.locals m := hn
      rw [cL] at hn
      exact hRR D s3.heap.objs.size s6 m H5 I7 qq hn (I3.fpOk (Nat.le_refl _) nC)
    · have ti := T.item (X.blk s3 H3 scope ce fp) rfl rfl rfl hc i [] s5 _ H5 (fun _ _ => False) I5 (stat I5 n5) st5 go
      refine thnF ti fun r s6 ⟨u, hr, h6⟩ => ?_
      subst hr
      refine thnF h6 fun _ s7 ⟨x, H7, I7, r7, y7, st7, n7⟩ => ?_
      have I7' := I7.pinned (stat I7 n7) (T.obj _ _ st7)
      refine thnF (pg.run _ s7 _ H7 x u _ I7' r7 (step x H7 y7)) fun _ s8 ⟨σ8, H8, I8, hw8, q8⟩ => ?_
      refine thnF (pt.run _ s8 σ8 H8 _ I8 q8) fun c s9 ⟨H9, I9, q9⟩ => ?_
      have fin : ∀ {s' : Shared} {H' : Hp}, Inv (X.blk s3 H3 scope ce fp) ([] ++ pinsAt fp s7.heap) σ8 H' s' → Nx H' → ∃ m, m < n ∧ ∃ i H', Inv (X.blk s3 H3 scope ce fp) [] (wipe σ (own.map (·.2))) H' s' ∧ tn i s'.heap ∧ (∀ b ∈ fp, H' b = none) ∧ W i m H' := fun {s' H'} I' nx => by
        obtain ⟨m', hm, w'⟩ := hNx H' nx
        have pin' : ∀ b ∈ fp, ∀ o, s7.heap.get? b = some o → s'.heap.get? b = some o ∧ H' b = none := fun b hb o e =>
          let z := I'.pin (b, o) (List.mem_append_right _ (List.mem_append_right _ (mem_pinsAt hb e)))
          ⟨z.1, z.2.1⟩
        have hl : (wipe σ (own.map (·.2))).length = σ8.length := by rw [← hw8, wipe_length]
        refine ⟨m', hm, i + 1, H', (I'.unpinned (pins := [])).weak hl (fun j v e => ?_), T.keep _ _ _ st7 fun b hb o e => (pin' b hb o e).1, fun b hb => ?_, w'⟩
        · rw [← hw8] at e
          exact (wipe_some e).1
        · obtain ⟨o, e, _⟩ := T.obj _ _ st7 b hb
          exact (pin' b hb o e).2
      cases c with
      | false =>
        simp only [Bool.false_eq_true, if_false] at q9 ⊢
        exact fin I9 q9
      | true =>
        simp only [if_true] at q9 ⊢
        refine thnF (pk.run _ s9 σ8 H9 _ I9 q9) fun z s10 ⟨yk, H10, I10, r10, q10⟩ => ?_
        refine thnF (pe.run _ s10 σ8 H10 _ I10 q10) fun z2 s11 ⟨yv, H11, I11, r11, xs, k, b, ek, g11, hk11, hz11, nx⟩ => ?_
        subst ek
        obtain rfl : z = Value.ref b := r10
        exact n_dictSet (X := X.blk s3 H3 scope ce fp) hu I11 g11 hz11 hk11 r11 fun s12 I12 => fin I12 nx
  exact codeAny_compStart_dict loop (T.self X.A 0 _ _ _ st4 loop)
theorem pe_dcN {kx vx tg iter : Expr} {ifs : List Expr} {scope : Scope} {own : List (Str × Nat)} {pos : Pos} {wi : TI} {g : TG} {tt : TT} {tk tv : TE} (hu : X.A.units + 9 < cLine) (hc : X.calm = true) (hN : X.N.Nodup) (hi : PI X tg iter wi) (ok : BlkOk X.N X.env.scope scope own)
    (hg : ∀ (s : Shared) (H : Hp) (C : Addr) (cl : List (Str × Addr)) (fp : List Addr), PG (X.blk s H scope (compEnvC scope cl C X.env) fp) tg g) (ht : ∀ (s : Shared) (H : Hp) (C : Addr) (cl : List (Str × Addr)) (fp : List Addr), PTs (X.blk s H scope (compEnvC scope cl C X.env) fp) ifs tt)
    (hk : ∀ (s : Shared) (H : Hp) (C : Addr) (cl : List (Str × Addr)) (fp : List Addr), PE (X.blk s H scope (compEnvC scope cl C X.env) fp) kx tk)
    (he : ∀ (s : Shared) (H : Hp) (C : Addr) (cl : List (Str × Addr)) (fp : List Addr), PE (X.blk s H scope (compEnvC scope cl C X.env) fp) vx tv) (hs : ∀ x, foldedSetIterable iter X.env x = pure x := by intro _; rfl) :
    PE X (.DictComp kx vx [⟨tg, iter, ifs, 0⟩] scope pos) (tDcN X.K X.w wi g tt tk tv (own.map (·.2))) := by
  refine ⟨fun pins s σ H Q I h => ?_⟩
  rw [arm_eval_DictComp]
  refine dcn_core hu hc hN I hi ok hg ht hk he hs h fun D C s' m H' I' q hn f => ⟨m, hn, fun h'' sb => ?_⟩
  obtain ⟨f0, f1, f2, f3, f4, f5⟩ := f
  exact ⟨.ref D, H', I'.turned (t' := s'.toks) (fun b o hb e => (sb.2 b hb).trans e) f0 f1 f3 f4 f5, rfl, q⟩
end
end DL
namespace DL
open PySem PySem.Spec L2
/-- a text by its codes -/
abbrev Tx := List Nat
abbrev tS (t : Tx) : Str := ⟨t.toArray⟩
def tx (s : String) : Tx := s.toList.map Char.toNat
theorem ofString_tx (s : String) : Str.ofString s = tS (tx s) := by
  unfold Str.ofString
  rw [cpsOfBytes_string]; rfl
theorem tS_inj {a b : Tx} (h : tS a = tS b) : a = b := by
  have := congrArg (fun s : Str => s.cps.toList) h
  simpa using this
theorem tS_of (x : Str) : x = tS x.cps.toList := by cases x; simp
theorem tS_append (a b : Tx) : tS a ++ tS b = tS (a ++ b) := by
  show (⟨a.toArray ++ b.toArray⟩ : Str) = _
  simp
theorem tS_length (a : Tx) : (tS a).length = a.length := by
  show a.toArray.size = _
  simp
/-- a dict's key -/
abbrev DK := Sum Int Tx
def kk : DK → Key
  | .inl i => .inl i
  | .inr t => .inr (tS t)
theorem kk_inj {a b : DK} (h : kk a = kk b) : a = b := by
  cases a <;> cases b <;> simp only [kk, Sum.inl.injEq, Sum.inr.injEq, reduceCtorEq] at h
  · rw [h]
  · rw [tS_inj h]
inductive D where
  | non | bl (b : Bool) | int (i : Int) | str (x : Tx) | tup (xs : List D) | lst (xs : List D) | scr (ns : List Int) | ref (a : Addr) | ty (n : String)
  /-- a dict that stays as it is -/
  | dct (ks : List DK) (ds : List D)
  /-- a tuple whose object is told: dict(..) reads it -/
  | ptp (xs : List D)
  deriving Inhabited
mutual
/-- v stands for d, its tuples and lists in the frozen heap F -/
def RelD (K : PySem.W.Frag) (F : Hp) : D → V → Prop
  | .non, v => v = .non
  | .bl b, v => v = .bl b
  | .int i, v => v = .int i
  | .str x, v => v = .str (tS x)
  | .tup ds, v => ∃ a vs, v = .ref a ∧ SqT K F a vs ∧ RelDs K F ds vs
  | .lst ds, v => ∃ a vs, v = .ref a ∧ F a = some (.lst vs) ∧ RelDs K F ds vs
  | .scr ns, v => ∃ a, v = .ref a ∧ SqL K F a (ns.map V.int)
  | .ref a, v => v = .ref a
  | .ty n, v => v = .ty n
  | .dct ks ds, v => ∃ a o vs, v = .ref a ∧ F a = some (.frz o (.dK ((ks.map kk).zip vs))) ∧ vs.length = ks.length ∧ RelDs K F ds vs
  | .ptp ds, v => ∃ a o vs, v = .ref a ∧ F a = some (.frz o (.tup vs)) ∧ o.dict = none ∧ RelDs K F ds vs
def RelDs (K : PySem.W.Frag) (F : Hp) : List D → List V → Prop
  | [], vs => vs = []
  | d :: ds, vs => ∃ v r, vs = v :: r ∧ RelD K F d v ∧ RelDs K F ds r
end
section
variable {K : PySem.W.Frag} {F F' : Hp}
theorem seqT {a : Addr} {xs : List V} (e : Same F F') (h : SqT K F a xs) : SqT K F' a xs := by
  rcases h with (h | ⟨o, h⟩) | h
  · exact .inl (.inl (e _ _ h))
  · exact .inl (.inr ⟨o, e _ _ h⟩)
  · exact .inr h
mutual
theorem RelD.mono (e : Same F F') : ∀ (d : D) (v : V), RelD K F d v → RelD K F' d v
  | .non, _, h => by unfold RelD at h ⊢; exact h
  | .bl _, _, h => by unfold RelD at h ⊢; exact h
  | .int _, _, h => by unfold RelD at h ⊢; exact h
  | .str _, _, h => by unfold RelD at h ⊢; exact h
  | .ref _, _, h => by unfold RelD at h ⊢; exact h
  | .ty _, _, h => by unfold RelD at h ⊢; exact h
  | .tup ds, _, h => by
    unfold RelD at h ⊢
    obtain ⟨a, vs, h1, h2, h3⟩ := h
    exact ⟨a, vs, h1, seqT e h2, RelDs.mono e ds vs h3⟩
  | .dct ks ds, _, h => by
    unfold RelD at h ⊢
    obtain ⟨a, o, vs, h1, h2, h4, h3⟩ := h
    exact ⟨a, o, vs, h1, e _ _ h2, h4, RelDs.mono e ds vs h3⟩
  | .ptp ds, _, h => by
    unfold RelD at h ⊢
    obtain ⟨a, o, vs, h1, h2, h4, h3⟩ := h
    exact ⟨a, o, vs, h1, e _ _ h2, h4, RelDs.mono e ds vs h3⟩
  | .lst ds, _, h => by
    unfold RelD at h ⊢
    obtain ⟨a, vs, h1, h2, h3⟩ := h
    exact ⟨a, vs, h1, e _ _ h2, RelDs.mono e ds vs h3⟩
  | .scr ns, _, h => by
    unfold RelD at h ⊢
    obtain ⟨a, h1, h2⟩ := h
    exact ⟨a, h1, e.seq h2⟩
theorem RelDs.mono (e : Same F F') : ∀ (ds : List D) (vs : List V), RelDs K F ds vs → RelDs K F' ds vs
  | [], _, h => by unfold RelDs at h ⊢; exact h
  | d :: ds, _, h => by
    unfold RelDs at h ⊢
    obtain ⟨v, r, h1, h2, h3⟩ := h
    exact ⟨v, r, h1, RelD.mono e d v h2, RelDs.mono e ds r h3⟩
end
theorem RelDs.nil : RelDs K F [] [] := by unfold RelDs; rfl
theorem RelDs.cons {d : D} {ds : List D} {v : V} {vs : List V} (h : RelD K F d v) (t : RelDs K F ds vs) : RelDs K F (d :: ds) (v :: vs) := by
  unfold RelDs; exact ⟨v, vs, rfl, h, t⟩
theorem RelDs.nil_inv {vs : List V} (h : RelDs K F [] vs) : vs = [] := by unfold RelDs at h; exact h
theorem RelDs.cons_inv {d : D} {ds : List D} {vs : List V} (h : RelDs K F (d :: ds) vs) : ∃ v r, vs = v :: r ∧ RelD K F d v ∧ RelDs K F ds r := by unfold RelDs at h; exact h
theorem RelDs.length : ∀ {ds : List D} {vs : List V}, RelDs K F ds vs → vs.length = ds.length
  | [], _, h => by rw [h.nil_inv]; rfl
  | d :: ds, _, h => by
    obtain ⟨v, r, rfl, _, h3⟩ := h.cons_inv
    simp [RelDs.length h3]
theorem RelDs.get : ∀ {ds : List D} {vs : List V} {i : Nat} {d : D}, RelDs K F ds vs → ds[i]? = some d → ∃ v, vs[i]? = some v ∧ RelD K F d v
  | [], _, i, d, _, h => by simp at h
  | d :: ds, _, 0, d', h, e => by
    obtain ⟨v, r, rfl, h2, _⟩ := h.cons_inv
    simp at e; subst e
    exact ⟨v, rfl, h2⟩
  | d :: ds, _, i + 1, d', h, e => by
    obtain ⟨v, r, rfl, _, h3⟩ := h.cons_inv
    obtain ⟨w, h4, h5⟩ := RelDs.get (i := i) h3 (by simpa using e)
    exact ⟨w, by simpa using h4, h5⟩
theorem RelDs.get' : ∀ {ds : List D} {vs : List V} {i : Nat} {v : V}, RelDs K F ds vs → vs[i]? = some v → ∃ d, ds[i]? = some d ∧ RelD K F d v
  | [], _, i, v, h, e => by rw [h.nil_inv] at e; simp at e
  | d :: ds, _, 0, v', h, e => by
    obtain ⟨v, r, rfl, h2, _⟩ := h.cons_inv
    simp at e; subst e
    exact ⟨d, rfl, h2⟩
  | d :: ds, _, i + 1, v', h, e => by
    obtain ⟨v, r, rfl, _, h3⟩ := h.cons_inv
    obtain ⟨w, h4, h5⟩ := RelDs.get' (i := i) h3 (by simpa using e)
    exact ⟨w, by simpa using h4, h5⟩
theorem RelDs.append : ∀ {ds es : List D} {vs ws : List V}, RelDs K F ds vs → RelDs K F es ws → RelDs K F (ds ++ es) (vs ++ ws)
  | [], _, _, _, h, g => by rw [h.nil_inv]; exact g
  | d :: ds, _, _, _, h, g => by
    obtain ⟨v, r, rfl, h2, h3⟩ := h.cons_inv
    exact .cons h2 (RelDs.append h3 g)
theorem RelDs.take : ∀ {ds : List D} {vs : List V} (n : Nat), RelDs K F ds vs → RelDs K F (ds.take n) (vs.take n)
  | _, _, 0, _ => .nil
  | [], _, n + 1, h => by rw [h.nil_inv]; exact .nil
  | d :: ds, _, n + 1, h => by
    obtain ⟨v, r, rfl, h2, h3⟩ := h.cons_inv
    exact .cons h2 (RelDs.take n h3)
theorem RelDs.drop : ∀ {ds : List D} {vs : List V} (n : Nat), RelDs K F ds vs → RelDs K F (ds.drop n) (vs.drop n)
  | _, _, 0, h => h
  | [], _, n + 1, h => by rw [h.nil_inv]; exact .nil
  | d :: ds, _, n + 1, h => by
    obtain ⟨v, r, rfl, h2, h3⟩ := h.cons_inv
    exact RelDs.drop n h3
theorem RelDs.set {d : D} {v : V} (hd : RelD K F d v) : ∀ {ds : List D} {vs : List V} (i : Nat), RelDs K F ds vs → RelDs K F (ds.set i d) (vs.set i v)
  | [], _, _, h => by rw [h.nil_inv]; exact .nil
  | d :: ds, _, 0, h => by
    obtain ⟨v, r, rfl, h2, h3⟩ := h.cons_inv
    exact .cons hd h3
  | d :: ds, _, i + 1, h => by
    obtain ⟨v, r, rfl, h2, h3⟩ := h.cons_inv
    exact .cons h2 (RelDs.set hd i h3)
theorem RelDs.ints : ∀ ns : List Int, RelDs K F (ns.map D.int) (ns.map V.int)
  | [] => .nil
  | n :: ns => .cons (by unfold RelD; rfl) (RelDs.ints ns)
theorem RelD.int_i (i : Int) : RelD K F (.int i) (.int i) := by unfold RelD; rfl
theorem RelD.bl_i (b : Bool) : RelD K F (.bl b) (.bl b) := by unfold RelD; rfl
theorem RelD.non_i : RelD K F .non .non := by unfold RelD; rfl
theorem RelD.str_i (x : Tx) : RelD K F (.str x) (.str (tS x)) := by unfold RelD; rfl
theorem RelD.ref_i (a : Addr) : RelD K F (.ref a) (.ref a) := by unfold RelD; rfl
theorem RelD.int_e {i : Int} {v : V} (h : RelD K F (.int i) v) : v = .int i := by unfold RelD at h; exact h
theorem RelD.bl_e {i : Bool} {v : V} (h : RelD K F (.bl i) v) : v = .bl i := by unfold RelD at h; exact h
theorem RelD.non_e {v : V} (h : RelD K F .non v) : v = .non := by unfold RelD at h; exact h
theorem RelD.str_e {i : Tx} {v : V} (h : RelD K F (.str i) v) : v = .str (tS i) := by unfold RelD at h; exact h
theorem RelD.ty_i (a : String) : RelD K F (.ty a) (.ty a) := by unfold RelD; rfl
theorem RelD.ty_e {a : String} {v : V} (h : RelD K F (.ty a) v) : v = .ty a := by unfold RelD at h; exact h
theorem RelD.ref_e {a : Addr} {v : V} (h : RelD K F (.ref a) v) : v = .ref a := by unfold RelD at h; exact h
theorem RelD.tup_e {ds : List D} {v : V} (h : RelD K F (.tup ds) v) : ∃ a vs, v = .ref a ∧ SqT K F a vs ∧ RelDs K F ds vs := by unfold RelD at h; exact h
theorem RelD.lst_e {ds : List D} {v : V} (h : RelD K F (.lst ds) v) : ∃ a vs, v = .ref a ∧ F a = some (.lst vs) ∧ RelDs K F ds vs := by unfold RelD at h; exact h
theorem RelD.scr_e {ns : List Int} {v : V} (h : RelD K F (.scr ns) v) : ∃ a, v = .ref a ∧ SqL K F a (ns.map V.int) := by unfold RelD at h; exact h
theorem RelD.dct_e {ks : List DK} {ds : List D} {v : V} (h : RelD K F (.dct ks ds) v) : ∃ a o vs, v = .ref a ∧ F a = some (.frz o (.dK ((ks.map kk).zip vs))) ∧ vs.length = ks.length ∧ RelDs K F ds vs := by unfold RelD at h; exact h
theorem RelD.ptp_e {ds : List D} {v : V} (h : RelD K F (.ptp ds) v) : ∃ a o vs, v = .ref a ∧ F a = some (.frz o (.tup vs)) ∧ o.dict = none ∧ RelDs K F ds vs := by unfold RelD at h; exact h
theorem RelD.ptp_i {ds : List D} {a : Addr} {o : Obj} {vs : List V} (h : F a = some (.frz o (.tup vs))) (hd : o.dict = none) (r : RelDs K F ds vs) : RelD K F (.ptp ds) (.ref a) := by unfold RelD; exact ⟨a, o, vs, rfl, h, hd, r⟩
theorem RelD.dct_i {ks : List DK} {ds : List D} {a : Addr} {o : Obj} {vs : List V} (h : F a = some (.frz o (.dK ((ks.map kk).zip vs)))) (hl : vs.length = ks.length) (r : RelDs K F ds vs) : RelD K F (.dct ks ds) (.ref a) := by unfold RelD; exact ⟨a, o, vs, rfl, h, hl, r⟩
theorem RelD.tup_i {ds : List D} {a : Addr} {vs : List V} (h : SqT K F a vs) (r : RelDs K F ds vs) : RelD K F (.tup ds) (.ref a) := by unfold RelD; exact ⟨a, vs, rfl, h, r⟩
theorem RelD.lst_i {ds : List D} {a : Addr} {vs : List V} (h : F a = some (.lst vs)) (r : RelDs K F ds vs) : RelD K F (.lst ds) (.ref a) := by unfold RelD; exact ⟨a, vs, rfl, h, r⟩
theorem RelD.scr_i {ns : List Int} {a : Addr} (h : SqL K F a (ns.map V.int)) : RelD K F (.scr ns) (.ref a) := by unfold RelD; exact ⟨a, rfl, h⟩
end
def RelF {κ : Type} (K : PySem.W.Frag) (F : Hp) : List (κ × D) → List (κ × V) → Prop
  | [], ws => ws = []
  | (k, d) :: fs, ws => ∃ v r, ws = (k, v) :: r ∧ RelD K F d v ∧ RelF K F fs r
section
variable {κ : Type} {K : PySem.W.Frag} {F F' : Hp}
theorem RelF.mono (e : Same F F') : ∀ {fs : List (κ × D)} {ws : List (κ × V)}, RelF K F fs ws → RelF K F' fs ws
  | [], _, h => h
  | (k, d) :: fs, _, h => by
    obtain ⟨v, r, rfl, h2, h3⟩ := h
    exact ⟨v, r, rfl, RelD.mono e d v h2, RelF.mono e h3⟩
theorem RelF.length : ∀ {fs : List (κ × D)} {ws : List (κ × V)}, RelF K F fs ws → ws.length = fs.length
  | [], _, h => by rw [show _ = _ from h]; rfl
  | (k, d) :: fs, _, h => by
    obtain ⟨v, r, rfl, h2, h3⟩ := h
    simp [RelF.length h3]
theorem RelF.keys : ∀ {fs : List (κ × D)} {ws : List (κ × V)}, RelF K F fs ws → ws.map (·.1) = fs.map (·.1)
  | [], _, h => by rw [show _ = _ from h]; rfl
  | (k, d) :: fs, _, h => by
    obtain ⟨v, r, rfl, h2, h3⟩ := h
    simp [RelF.keys h3]
theorem RelF.lookup [BEq κ] {k : κ} {d : D} : ∀ {fs : List (κ × D)} {ws : List (κ × V)}, RelF K F fs ws → fs.lookup k = some d → ∃ v, ws.lookup k = some v ∧ RelD K F d v
  | [], _, h, e => by cases e
  | (k', d') :: fs, _, h, e => by
    obtain ⟨v, r, rfl, h2, h3⟩ := h
    unfold List.lookup at e ⊢
    cases q : (k == k') with
    | true =>
      rw [q] at e
      cases e
      exact ⟨v, rfl, h2⟩
    | false =>
      rw [q] at e
      exact RelF.lookup h3 e
theorem RelF.lookup_none [BEq κ] {k : κ} : ∀ {fs : List (κ × D)} {ws : List (κ × V)}, RelF K F fs ws → fs.lookup k = none → ws.lookup k = none
  | [], _, h, e => by rw [show _ = _ from h]; rfl
  | (k', d') :: fs, _, h, e => by
    obtain ⟨v, r, rfl, h2, h3⟩ := h
    unfold List.lookup at e ⊢
    cases q : (k == k') with
    | true => rw [q] at e; cases e
    | false =>
      rw [q] at e
      exact RelF.lookup_none h3 e
end
inductive DO where
  | lst (ds : List D)
  | dic (kvs : List (DK × D))
  | ins (C : Addr) (fs : List (Str × D))
  | dn (w : World) (a : Addr) (kvs : List (NestedKey × D × D))
abbrev Store := Addr → Option DO
def sup (S : Store) (a : Addr) (o : DO) : Store := fun b => if b = a then some o else S b
def sdel (S : Store) (a : Addr) : Store := fun b => if b = a then none else S b
theorem sup_same {S : Store} {a : Addr} {o : DO} : sup S a o a = some o := by unfold sup; rw [if_pos rfl]
theorem sup_ne {S : Store} {a b : Addr} {o : DO} (h : b ≠ a) : sup S a o b = S b := by unfold sup; rw [if_neg h]
theorem sup_sup {S : Store} {a : Addr} {o u : DO} : sup (sup S a o) a u = sup S a u := by funext b; unfold sup; split <;> rfl
theorem sdel_sup {S : Store} {a : Addr} {o : DO} (h : S a = none) : sdel (sup S a o) a = S := by
  funext b; unfold sdel sup
  by_cases e : b = a
  · rw [if_pos e, e, h]
  · rw [if_neg e, if_neg e]
theorem sup_id {S : Store} {a : Addr} {o : DO} (h : S a = some o) : sup S a o = S := by
  funext b; unfold sup
  by_cases e : b = a
  · rw [if_pos e, e, h]
  · rw [if_neg e]
theorem sup_comm {S : Store} {a b : Addr} {o u : DO} (h : a ≠ b) : sup (sup S a o) b u = sup (sup S b u) a o := by
  funext c; unfold sup
  by_cases e : c = b
  · rw [if_pos e, if_neg (by rw [e]; exact h.symm), if_pos e]
  · rw [if_neg e, if_neg e]
def Sub (S S' : Store) : Prop := ∀ a o, S a = some o → S' a = some o
theorem Sub.refl (S : Store) : Sub S S := fun _ _ h => h
theorem Sub.trans {A B C : Store} (h : Sub A B) (g : Sub B C) : Sub A C := fun a o e => g a o (h a o e)
theorem Sub.sup {S : Store} {a : Addr} {o : DO} (h : S a = none) : Sub S (sup S a o) := fun b u e => by
  rw [sup_ne]; exact e
  intro z; rw [z, h] at e; cases e
theorem Sub.sup2 {S S' : Store} {a : Addr} {o : DO} (g : Sub S S') (h : S a = none) : Sub S (DL.sup S' a o) := fun b u e => by
  rw [sup_ne]; exact g _ _ e
  intro z; rw [z, h] at e; cases e
mutual
theorem NK.mono {K : PySem.W.Frag} {F F' : Hp} (e : Same F F') : ∀ (k : NestedKey) (v : V), NK K F k v → NK K F' k v
  | .none, _, h => by cases h; exact .none
  | .num i, _, h => by
    cases h with
    | bool q => exact .bool q
    | int _ => exact .int _
  | .text x, _, h => by cases h; exact .text _
  | .tup ks, _, h => by
    cases h with
    | tup h1 h2 => exact .tup (seqT e h1) (NKs.mono e ks _ h2)
theorem NKs.mono {K : PySem.W.Frag} {F F' : Hp} (e : Same F F') : ∀ (ks : List NestedKey) (vs : List V), NKs K F ks vs → NKs K F' ks vs
  | [], _, h => by cases h; exact .nil
  | k :: ks, _, h => by
    cases h with
    | cons h1 h2 => exact .cons (NK.mono e k _ h1) (NKs.mono e ks _ h2)
end
theorem KeyN.mono {K : PySem.W.Frag} {F F' : Hp} (e : Same F F') {k : NestedKey} {v : V} (h : KeyN K F k v) : KeyN K F' k v := ⟨NK.mono e k v h.1, h.2⟩
def RRN (K : PySem.W.Frag) (F : Hp) (p : NestedKey × D × D) (q : NestedKey × Addr × V) : Prop := p.1 = q.1 ∧ KeyN K F p.1 (.ref q.2.1) ∧ RelD K F p.2.1 (.ref q.2.1) ∧ RelD K F p.2.2 q.2.2
abbrev RelN (K : PySem.W.Frag) (F : Hp) : List (NestedKey × D × D) → XN → Prop := Paired (RRN K F)
theorem RelN.mono {K : PySem.W.Frag} {F F' : Hp} (e : Same F F') {kvs : List (NestedKey × D × D)} {xs : XN} (h : RelN K F kvs xs) : RelN K F' kvs xs := Paired.mapP h fun _ _ z => ⟨z.1, z.2.1.mono e, RelD.mono e _ _ z.2.2.1, RelD.mono e _ _ z.2.2.2⟩
def RelO (K : PySem.W.Frag) (F : Hp) : DO → HO → Prop
  | .lst ds, o => ∃ vs, o = .lst vs ∧ RelDs K F ds vs
  | .dic kvs, o => ∃ ws, o = .dK ws ∧ RelF K F (kvs.map fun p => (kk p.1, p.2)) ws
  | .ins C fs, o => ∃ dx ws, o = .ins C dx ws ∧ RelF K F fs ws
  | .dn w a kvs, o => ∃ xs, o = NObj w a xs ∧ RelN K F kvs xs
theorem RelO.mono {K : PySem.W.Frag} {F F' : Hp} (e : Same F F') : ∀ {o : DO} {h : HO}, RelO K F o h → RelO K F' o h
  | .lst ds, _, h => by
    obtain ⟨vs, h1, h2⟩ := h
    exact ⟨vs, h1, RelDs.mono e ds vs h2⟩
  | .dic kvs, _, h => by
    obtain ⟨ws, h1, h2⟩ := h
    exact ⟨ws, h1, h2.mono e⟩
  | .ins C fs, _, h => by
    obtain ⟨dx, ws, h1, h2⟩ := h
    exact ⟨dx, ws, h1, h2.mono e⟩
  | .dn w a kvs, _, h => by
    obtain ⟨xs, h1, h2⟩ := h
    exact ⟨xs, h1, RelN.mono e h2⟩
/-- the abstract heap H holds the frozen F and the store S, apart -/
structure SR (K : PySem.W.Frag) (F : Hp) (S : Store) (H : Hp) : Prop where
  fro : Same F H
  obj : ∀ a o, S a = some o → F a = none ∧ ∃ ho, H a = some ho ∧ RelO K F o ho
/-- how F, S, H go on -/
structure Ext (F : Hp) (S : Store) (H : Hp) (F' : Hp) (S' : Store) (H' : Hp) : Prop where
  same : Same F F'
  off : ∀ a o, H a = some o → S a = none → H' a = some o
  newF : ∀ a, F' a ≠ none → F a = none → S a ≠ none ∨ H a = none
  newS : ∀ a, S' a ≠ none → S a ≠ none ∨ H a = none
theorem Ext.refl (F : Hp) (S : Store) (H : Hp) : Ext F S H F S H := ⟨Same.refl F, fun _ _ h _ => h, fun _ h g => absurd g h, fun _ h => .inl h⟩
theorem Ext.trans {F F' F'' : Hp} {S S' S'' : Store} {H H' H'' : Hp} (x : Ext F S H F' S' H') (y : Ext F' S' H' F'' S'' H'') : Ext F S H F'' S'' H'' where
  same := x.same.trans y.same
  off := fun a o h hs => by
    refine y.off a o (x.off a o h hs) ?_
    cases q : S' a with
    | none => rfl
    | some u =>
      rcases x.newS a (by rw [q]; simp) with z | z
      · exact absurd hs z
      · rw [h] at z; cases z
  newF := fun a h g => by
    cases q : F' a with
    | some u => exact x.newF a (by rw [q]; simp) g
    | none =>
      rcases y.newF a h q with z | z
      · exact x.newS a z
      · cases hs : S a with
        | some u => exact .inl (by simp)
        | none =>
          cases hh : H a with
          | none => exact .inr rfl
          | some o => rw [x.off a o hh hs] at z; cases z
  newS := fun a h => by
    rcases y.newS a h with z | z
    · exact x.newS a z
    · cases hs : S a with
      | some u => exact .inl (by simp)
      | none =>
        cases hh : H a with
        | none => exact .inr rfl
        | some o => rw [x.off a o hh hs] at z; cases z
/-- an entry: of a def -/
structure Ent where
  F : Hp
  S : Store
  H : Hp
section
variable {K : PySem.W.Frag} {F : Hp} {S : Store} {H : Hp} {p a : Addr} {ho : HO} {o : DO}
theorem SR.fnone (h : SR K F S H) (e : H p = none) : F p = none := by
  cases q : F p with
  | none => rfl
  | some u => have := h.fro p u q; rw [e] at this; cases this
theorem SR.snone (h : SR K F S H) (e : H p = none) : S p = none := by
  cases q : S p with
  | none => rfl
  | some u => obtain ⟨_, ho, h1, _⟩ := h.obj p u q; rw [e] at h1; cases h1
theorem SR.same_frz (h : SR K F S H) (e : H p = none) : Same F (upd F p ho) := fun b u q => by
  rw [upd_ne]; exact q
  intro z; rw [z, h.fnone e] at q; cases q
/-- a new frozen object -/
theorem SR.frz (h : SR K F S H) (e : H p = none) : SR K (upd F p ho) S (upd H p ho) where
  fro := fun b u q => by
    by_cases z : b = p
    · subst z; rw [upd_same] at q ⊢; exact q
    · rw [upd_ne z] at q ⊢; exact h.fro b u q
  obj := fun b u q => by
    obtain ⟨h1, ho', h2, h3⟩ := h.obj b u q
    have z : b ≠ p := by intro z; rw [z, e] at h2; cases h2
    rw [upd_ne z, upd_ne z]
    exact ⟨h1, ho', h2, h3.mono (h.same_frz e)⟩
theorem SR.ext_frz (h : SR K F S H) (e : H p = none) : Ext F S H (upd F p ho) S (upd H p ho) where
  same := h.same_frz e
  off := fun b u q _ => by
    rw [upd_ne]; exact q
    intro z; rw [z, e] at q; cases q
  newF := fun b q g => by
    by_cases z : b = p
    · subst z; exact .inr e
    · rw [upd_ne z] at q; exact absurd g q
  newS := fun b q => .inl q
/-- a new object of the store -/
theorem SR.box (h : SR K F S H) (e : H p = none) (r : RelO K F o ho) : SR K F (sup S p o) (upd H p ho) where
  fro := fun b u q => by
    rw [upd_ne]; exact h.fro b u q
    intro z; rw [z, h.fnone e] at q; cases q
  obj := fun b u q => by
    by_cases z : b = p
    · subst z; rw [sup_same] at q; cases q
      exact ⟨h.fnone e, ho, upd_same, r⟩
    · rw [sup_ne z] at q; rw [upd_ne z]; exact h.obj b u q
theorem SR.ext_box (h : SR K F S H) (e : H p = none) : Ext F S H F (sup S p o) (upd H p ho) where
  same := Same.refl F
  off := fun b u q _ => by
    rw [upd_ne]; exact q
    intro z; rw [z, e] at q; cases q
  newF := fun b q g => absurd g q
  newS := fun b q => by
    by_cases z : b = p
    · subst z; exact .inr e
    · rw [sup_ne z] at q; exact .inl q
/-- an object of the store is written -/
theorem SR.write {o0 : DO} (h : SR K F S H) (e : S a = some o0) (r : RelO K F o ho) : SR K F (sup S a o) (upd H a ho) where
  fro := fun b u q => by
    rw [upd_ne]; exact h.fro b u q
    intro z; rw [z, (h.obj a o0 e).1] at q; cases q
  obj := fun b u q => by
    by_cases z : b = a
    · subst z; rw [sup_same] at q; cases q
      exact ⟨(h.obj b o0 e).1, ho, upd_same, r⟩
    · rw [sup_ne z] at q; rw [upd_ne z]; exact h.obj b u q
theorem SR.ext_write {o0 : DO} (h : SR K F S H) (e : S a = some o0) : Ext F S H F (sup S a o) (upd H a ho) where
  same := Same.refl F
  off := fun b u q n => by
    rw [upd_ne]; exact q
    intro z; rw [z, e] at n; cases n
  newF := fun b q g => absurd g q
  newS := fun b q => by
    by_cases z : b = a
    · subst z; exact .inl (by rw [e]; simp)
    · rw [sup_ne z] at q; exact .inl q
/-- a list of the store is frozen -/
theorem SR.freeze {ds : List D} (h : SR K F S H) (e : S a = some (.lst ds)) : ∃ F', SR K F' (sdel S a) H ∧ Ext F S H F' (sdel S a) H ∧ RelD K F' (.lst ds) (.ref a) := by
  obtain ⟨h1, ho, h2, vs, rfl, h3⟩ := h.obj a _ e
  have sm : Same F (upd F a (.lst vs)) := fun b u q => by
    rw [upd_ne]; exact q
    intro z; rw [z, h1] at q; cases q
  refine ⟨upd F a (.lst vs), ⟨fun b u q => ?_, fun b u q => ?_⟩, ⟨sm, fun b u q _ => q, fun b q g => ?_, fun b q => ?_⟩, RelD.lst_i upd_same (RelDs.mono sm _ _ h3)⟩
  · by_cases z : b = a
    · subst z; rw [upd_same] at q; cases q; exact h2
    · rw [upd_ne z] at q; exact h.fro b u q
  · unfold sdel at q
    by_cases z : b = a
    · rw [if_pos z] at q; cases q
    · rw [if_neg z] at q
      obtain ⟨k1, ho', k2, k3⟩ := h.obj b u q
      rw [upd_ne z]
      exact ⟨k1, ho', k2, k3.mono sm⟩
  · by_cases z : b = a
    · subst z; exact .inl (by rw [e]; simp)
    · rw [upd_ne z] at q; exact absurd g q
  · unfold sdel at q
    by_cases z : b = a
    · rw [if_pos z] at q; exact absurd rfl q
    · rw [if_neg z] at q; exact .inl q
theorem Ext.laid {o1 : HO} (e : H p = none) : Ext F S H F S (upd H p o1) := by
  refine ⟨Same.refl F, fun b u q _ => ?_, fun _ q g => absurd g q, fun _ q => .inl q⟩
  rw [upd_ne]; exact q
  intro z; rw [z, e] at q; cases q
theorem SR.sub {S' : Store} (h : SR K F S H) (g : Sub S' S) : SR K F S' H := ⟨h.fro, fun a o e => h.obj a o (g a o e)⟩
theorem SR.ext_sub {S' : Store} (g : Sub S' S) : Ext F S H F S' H := ⟨Same.refl F, fun _ _ h _ => h, fun _ q g => absurd g q, fun b q => .inl (by
  cases e : S' b with
  | none => exact absurd e q
  | some u => rw [g b u e]; simp)⟩
theorem SR.lst (h : SR K F S H) {ds : List D} (e : S a = some (.lst ds)) : ∃ vs, H a = some (.lst vs) ∧ RelDs K F ds vs := by
  obtain ⟨_, ho, h2, vs, rfl, h3⟩ := h.obj a _ e
  exact ⟨vs, h2, h3⟩
theorem SR.dic (h : SR K F S H) {kvs : List (DK × D)} (e : S a = some (.dic kvs)) : ∃ ws, H a = some (.dK ws) ∧ RelF K F (kvs.map fun p => (kk p.1, p.2)) ws := by
  obtain ⟨_, ho, h2, vs, rfl, h3⟩ := h.obj a _ e
  exact ⟨vs, h2, h3⟩
theorem SR.dn (h : SR K F S H) {w : World} {b : Addr} {kvs : List (NestedKey × D × D)} (e : S a = some (.dn w b kvs)) : ∃ xs, H a = some (NObj w b xs) ∧ RelN K F kvs xs := by
  obtain ⟨_, ho, h2, xs, rfl, h3⟩ := h.obj a _ e
  exact ⟨xs, h2, h3⟩
theorem SR.ins (h : SR K F S H) {C : Addr} {fs : List (Str × D)} (e : S a = some (.ins C fs)) : ∃ dx ws, H a = some (.ins C dx ws) ∧ RelF K F fs ws := by
  obtain ⟨_, ho, h2, dx, vs, rfl, h3⟩ := h.obj a _ e
  exact ⟨dx, vs, h2, h3⟩
end
end DL
namespace DL
open PySem PySem.Spec L2
abbrev Rho := List (Option D)
def RelE (K : PySem.W.Frag) (F : Hp) (ρ : Rho) (σ : St) : Prop := ρ.length = σ.length ∧ ∀ (i : Nat) (d : D), ρ[i]? = some (some d) → ∃ v, σ[i]? = some (some v) ∧ RelD K F d v
abbrev TD := Rho → Store → (D → Store → Prop) → Prop
abbrev TDs := Rho → Store → (List D → Store → Prop) → Prop
abbrev TDT := Rho → Store → (Bool → Store → Prop) → Prop
structure DEnds where
  nx : Rho → Store → Prop
  rt : D → Store → Prop
  bk : Rho → Store → Prop := fun _ _ => False
  ct : Rho → Store → Prop := fun _ _ => False
abbrev TDS := DEnds → Rho → Store → Prop
/-- where one stands -/
structure At (K : PySem.W.Frag) (F0 : Ent) (F : Hp) (S : Store) (H : Hp) (ρ : Rho) (σ : St) : Prop where
  f0 : Ext F0.F F0.S F0.H F S H
  sr : SR K F S H
  env : RelE K F ρ σ
section
variable {K : PySem.W.Frag} {F0 : Ent} {F F' F'' : Hp} {S S' S'' : Store} {H H' H'' : Hp} {ρ : Rho} {σ : St}
theorem RelE.mono (e : Same F F') (h : RelE K F ρ σ) : RelE K F' ρ σ := ⟨h.1, fun i d q => by
  obtain ⟨v, h1, h2⟩ := h.2 i d q
  exact ⟨v, h1, RelD.mono e d v h2⟩⟩
theorem At.next (a : At K F0 F S H ρ σ) (x : Ext F S H F' S' H') (r : SR K F' S' H') : At K F0 F' S' H' ρ σ := ⟨a.f0.trans x, r, a.env.mono x.same⟩
theorem RelE.set {d : D} {v : V} (h : RelE K F ρ σ) (r : RelD K F d v) (i : Nat) : RelE K F (ρ.set i (some d)) (σ.set i (some v)) := by
  refine ⟨by simpa using h.1, fun j d' q => ?_⟩
  by_cases e : i = j
  · subst e
    have hi : i < ρ.length := by
      rcases Nat.lt_or_ge i ρ.length with z | z
      · exact z
      · rw [List.getElem?_eq_none (by simpa using z)] at q; cases q
    rw [List.getElem?_set_self hi] at q
    have e2 := Option.some.inj (Option.some.inj q)
    subst e2
    exact ⟨v, List.getElem?_set_self (by rw [← h.1]; exact hi), r⟩
  · rw [List.getElem?_set_ne e] at q
    rw [List.getElem?_set_ne e]
    exact h.2 j d' q
theorem RelE.unset (h : RelE K F ρ σ) (i : Nat) (o : Option V) : RelE K F (ρ.set i none) (σ.set i o) := by
  refine ⟨by simpa using h.1, fun j d' q => ?_⟩
  by_cases e : i = j
  · subst e
    rw [List.getElem?_set] at q
    simp at q
  · rw [List.getElem?_set_ne e] at q
    rw [List.getElem?_set_ne e]
    exact h.2 j d' q
end
/-- what follows, told over data -/
def Post (K : PySem.W.Frag) (F : Hp) (S : Store) (H : Hp) (Q' : D → Store → Prop) (Q : VK) : Prop :=
  ∀ v H' F' S' d, Ext F S H F' S' H' → SR K F' S' H' → RelD K F' d v → Q' d S' → Q v H'
def EL (K : PySem.W.Frag) (F0 : Ent) (t : TD) : TE := fun σ H Q => ∃ F S ρ Q', At K F0 F S H ρ σ ∧ t ρ S Q' ∧ Post K F S H Q' Q
def TL (K : PySem.W.Frag) (F0 : Ent) (t : TDT) : TT := fun σ H Q => ∃ F S ρ Q', At K F0 F S H ρ σ ∧ t ρ S Q' ∧ ∀ b H' F' S', Ext F S H F' S' H' → SR K F' S' H' → Q' b S' → Q b H'
def AL (K : PySem.W.Frag) (F0 : Ent) (t : TDs) : TA := fun σ H Q => ∃ F S ρ Q', At K F0 F S H ρ σ ∧ t ρ S Q' ∧ ∀ vs H' F' S' ds, Ext F S H F' S' H' → SR K F' S' H' → RelDs K F' ds vs → Q' ds S' → Q vs H'
def DE (X : Cx) (F0 : Ent) (e : Expr) (t : TD) : Prop := PE X e (EL X.K F0 t)
def DT (X : Cx) (F0 : Ent) (e : Expr) (t : TDT) : Prop := PT X e (TL X.K F0 t)
def DW (X : Cx) (F0 : Ent) (e : Expr) (t : TDT) : Prop := PW X e (TL X.K F0 t)
def DA (X : Cx) (F0 : Ent) (es : List Expr) (t : TDs) : Prop := PA X es (AL X.K F0 t)
theorem PE.weak {X : Cx} {e : Expr} {t t' : TE} (h : PE X e t) (w : ∀ σ H Q, t' σ H Q → t σ H Q) : PE X e t' := ⟨fun pins s σ H Q I q => h.run pins s σ H Q I (w _ _ _ q)⟩
theorem PT.weak {X : Cx} {e : Expr} {t t' : TT} (h : PT X e t) (w : ∀ σ H Q, t' σ H Q → t σ H Q) : PT X e t' := ⟨fun pins s σ H Q I q => h.run pins s σ H Q I (w _ _ _ q)⟩
theorem PW.weak {X : Cx} {e : Expr} {t t' : TT} (h : PW X e t) (w : ∀ σ H Q, t' σ H Q → t σ H Q) : PW X e t' := ⟨fun wh pins s σ H Q I q => h.run wh pins s σ H Q I (w _ _ _ q)⟩
theorem PA.weak {X : Cx} {e : List Expr} {t t' : TA} (h : PA X e t) (w : ∀ σ H Q, t' σ H Q → t σ H Q) : PA X e t' := ⟨fun p pins s σ H Q I q => h.run p pins s σ H Q I (w _ _ _ q)⟩
theorem PS.weak {X : Cx} {e : Stmt} {t t' : TS} (h : PS X e t) (w : ∀ D σ H, t' D σ H → t D σ H) : PS X e t' := ⟨fun pins s σ H D I q => h.run pins s σ H D I (w _ _ _ q)⟩
theorem PSs.weak {X : Cx} {e : List Stmt} {t t' : TS} (h : PSs X e t) (w : ∀ D σ H, t' D σ H → t D σ H) : PSs X e t' := ⟨fun pins s σ H D I q => h.run pins s σ H D I (w _ _ _ q)⟩
section
variable {K : PySem.W.Frag} {F0 : Ent} {F : Hp} {S : Store} {H : Hp} {ρ : Rho} {σ : St} {Q : VK} {Q' : D → Store → Prop} {t : TD}
/-- run a part, go on from where it ends -/
theorem EL.go {R : VK} {Q1 : D → Store → Prop} (a : At K F0 F S H ρ σ) (h : t ρ S Q1) (n : ∀ v H1 F1 S1 d, Ext F S H F1 S1 H1 → At K F0 F1 S1 H1 ρ σ → RelD K F1 d v → Q1 d S1 → R v H1) : EL K F0 t σ H R :=
  ⟨F, S, ρ, Q1, a, h, fun v H1 F1 S1 d x r rd q => n v H1 F1 S1 d x (a.next x r) rd q⟩
theorem TL.go {t : TDT} {R : Bool → Hp → Prop} {Q1 : Bool → Store → Prop} (a : At K F0 F S H ρ σ) (h : t ρ S Q1) (n : ∀ b H1 F1 S1, Ext F S H F1 S1 H1 → At K F0 F1 S1 H1 ρ σ → Q1 b S1 → R b H1) : TL K F0 t σ H R :=
  ⟨F, S, ρ, Q1, a, h, fun v H1 F1 S1 x r q => n v H1 F1 S1 x (a.next x r) q⟩
theorem AL.go {t : TDs} {R : List V → Hp → Prop} {Q1 : List D → Store → Prop} (a : At K F0 F S H ρ σ) (h : t ρ S Q1) (n : ∀ v H1 F1 S1 d, Ext F S H F1 S1 H1 → At K F0 F1 S1 H1 ρ σ → RelDs K F1 d v → Q1 d S1 → R v H1) : AL K F0 t σ H R :=
  ⟨F, S, ρ, Q1, a, h, fun v H1 F1 S1 d x r rd q => n v H1 F1 S1 d x (a.next x r) rd q⟩
theorem Post.of (p : Post K F S H Q' Q) {F1 : Hp} {S1 : Store} {H1 : Hp} (x : Ext F S H F1 S1 H1) {v : V} {d : D} (r : SR K F1 S1 H1) (rd : RelD K F1 d v) (q : Q' d S1) : Q v H1 := p v H1 F1 S1 d x r rd q
theorem Post.ext (p : Post K F S H Q' Q) {F1 : Hp} {S1 : Store} {H1 : Hp} (x : Ext F S H F1 S1 H1) : Post K F1 S1 H1 Q' Q := fun v H' F' S' d y r rd q => p v H' F' S' d (x.trans y) r rd q
end
section
variable {X : Cx} {F0 : Ent} {e a b c : Expr} {es : List Expr} {t ta tb : TD} {pos : Pos}
def tdV (i : Nat) : TD := fun ρ S Q => ∃ d, ρ[i]? = some (some d) ∧ Q d S
def tdC (d : D) : TD := fun _ S Q => Q d S
theorem de_of {x : Str} {i : Nat} (h : PE X (.Name x pos) (tVar i)) : DE X F0 (.Name x pos) (tdV i) := PE.weak h fun σ H Q ⟨F, S, ρ, Q', a, ⟨d, e, q⟩, p⟩ => by
  obtain ⟨v, h1, h2⟩ := a.env.2 i d e
  exact ⟨v, h1, p.of (Ext.refl _ _ _) a.sr h2 q⟩
theorem dv (i : Nat) {x : Str} {pos : Pos} (hN : X.N[i]? = some x := by rfl) (hv : Vis X.env.scope x := by first | exact Or.inl rfl | exact Or.inr (Or.inl rfl) | exact Or.inr (Or.inr rfl)) (hd : (x == ("__debug__" : Str)) = false := by decide)
    (hcd : (x == ("__classdict__" : Str)) = false := by decide) : DE X F0 (.Name x pos) (tdV i) := de_of (pe_var hN hv hd hcd)
/-- a list of the store, read for the last time: from here on it is data -/
def tdZ (i : Nat) : TD := fun ρ S Q => ∃ a ds, ρ[i]? = some (some (.ref a)) ∧ S a = some (.lst ds) ∧ Q (.lst ds) (sdel S a)
theorem dz (i : Nat) {x : Str} {pos : Pos} (hN : X.N[i]? = some x := by rfl) (hv : Vis X.env.scope x := by first | exact Or.inl rfl | exact Or.inr (Or.inl rfl) | exact Or.inr (Or.inr rfl)) (hd : (x == ("__debug__" : Str)) = false := by decide)
    (hcd : (x == ("__classdict__" : Str)) = false := by decide) : DE X F0 (.Name x pos) (tdZ i) := PE.weak (pe_var (i := i) hN hv hd hcd) fun σ H Q ⟨F, S, ρ, Q', a, ⟨p, ds, e, es, q⟩, k⟩ => by
  obtain ⟨v, h1, h2⟩ := a.env.2 i _ e
  obtain rfl := h2.ref_e
  obtain ⟨F', r, x, rd⟩ := a.sr.freeze es
  exact ⟨_, h1, k.of x r rd q⟩
theorem PE.const {v : V} {d : D} (h : PE X e (tC v)) (r : ∀ F, RelD X.K F d v) : DE X F0 e (tdC d) := PE.weak h fun σ H Q ⟨F, S, ρ, Q', a, q, p⟩ => p.of (Ext.refl _ _ _) a.sr (r F) q
theorem de_int {i j} : DE X F0 (.Constant (.int i) j pos) (tdC (.int i)) := PE.const pe_int fun _ => .int_i _
theorem de_bl {i j} : DE X F0 (.Constant (.bool i) j pos) (tdC (.bl i)) := PE.const pe_bl fun _ => .bl_i _
theorem de_non {j} : DE X F0 (.Constant .none j pos) (tdC .non) := PE.const pe_non fun _ => .non_i
theorem de_str {x j} {t : Tx} (h : x = tS t := by first | exact ofString_tx _ | rfl) : DE X F0 (.Constant (.str x) j pos) (tdC (.str t)) := by
  subst h
  exact PE.const pe_str fun _ => .str_i _
/-- a built-in class as a value -/
theorem de_ty {x : Str} {n : String} (hg : Gl X x) (hm : X.mg x = none) (hv : bootBuiltins x = some (.type n)) (hn : x ≠ "__name__" := by decide) (hd : (x == ("__debug__" : Str)) = false := by decide) : DE X F0 (.Name x pos) (tdC (.ty n)) :=
  PE.const (pe_bltn (v := .ty n) hg hm hv rfl hn hd) fun _ => .ty_i _
theorem de_glob {x : Str} {v : V} {u : Value} {d : D} (hg : Gl X x) (hm : X.mg x = some u) (r : RelV v u) (rd : ∀ F, RelD X.K F d v) (hd : (x == ("__debug__" : Str)) = false := by decide) : DE X F0 (.Name x pos) (tdC d) := PE.const (pe_glob hg hm r hd) rd
abbrev DOp := Store → D → D → (D → Store → Prop) → Prop
def OL (K : PySem.W.Frag) (g : DOp) : R2 := fun x y H Q => ∃ F S dx dy Q', SR K F S H ∧ RelD K F dx x ∧ RelD K F dy y ∧ g S dx dy Q' ∧ Post K F S H Q' Q
def tdOp (g : DOp) (ta tb : TD) : TD := fun ρ S Q => ta ρ S fun x S1 => tb ρ S1 fun y S2 => g S2 x y Q
theorem op_go {g : DOp} {σ : St} {H : Hp} {Q : VK} (h : EL X.K F0 (tdOp g ta tb) σ H Q) : tOp (OL X.K g) (EL X.K F0 ta) (EL X.K F0 tb) σ H Q := by
  obtain ⟨F, S, ρ, Q', a, h, p⟩ := h
  refine EL.go a h fun v1 H1 F1 S1 d1 x1 a1 r1 q1 => ?_
  refine EL.go a1 q1 fun v2 H2 F2 S2 d2 x2 a2 r2 q2 => ?_
  exact ⟨F2, S2, d1, d2, Q', a2.sr, RelD.mono x2.same _ _ r1, r2, q2, p.ext (x1.trans x2)⟩
theorem de_op {op : Operator} {g : DOp} (ho : OpR X (binaryOp op) (OL X.K g)) (ha : DE X F0 a ta) (hb : DE X F0 b tb) : DE X F0 (.BinOp a op b pos) (tdOp g ta tb) := PE.weak (pe_op ho ha hb) fun _ _ _ h => op_go h
theorem de_cmp {op : CmpOp} {g : DOp} (ho : OpR X (compareOp op) (OL X.K g)) (ha : DE X F0 a ta) (hb : DE X F0 b tb) (hm : behindInMarks op b = false) : DE X F0 (.Compare a [op] [b] pos) (tdOp g ta tb) :=
  PE.weak (pe_cmpR ho ha hb hm) fun _ _ _ h => op_go h
/-- a value as a test -/
def tdB (t : TD) : TDT := fun ρ S Q => t ρ S fun d S' => ∃ k, d = .bl k ∧ Q k S'
theorem dt_cmp {op : CmpOp} {g : DOp} (ho : OpR X (compareOp op) (OL X.K g)) (ha : DE X F0 a ta) (hb : DE X F0 b tb) (hm : behindInMarks op b = false) : DT X F0 (.Compare a [op] [b] pos) (tdB (tdOp g ta tb)) :=
  PT.weak (pt_cmpR ho ha hb hm) fun σ H Q ⟨F, S, ρ, Q', a, h, p⟩ => op_go ⟨F, S, ρ, _, a, h, fun v H' F' S' d x r rd q => by
    obtain ⟨k, rfl, q⟩ := q
    exact ⟨k, rd.bl_e, p k H' F' S' x r q⟩⟩
theorem dt_val (h : DE X F0 e t) (he : ∀ whole, isTrue e X.env whole = (do let v ← whole; standAt e.pos; holding [v] (truthy v)) := by intro _; rfl) : DT X F0 e (tdB t) :=
  PT.weak (pt_val h he) fun σ H Q ⟨F, S, ρ, Q', a, h, p⟩ => ⟨F, S, ρ, _, a, h, fun v H' F' S' d x r rd q => by
    obtain ⟨k, rfl, q⟩ := q
    exact ⟨k, rd.bl_e, p k H' F' S' x r q⟩⟩
variable {A B : TDT} {rest : List Expr}
def tdAnd (t u : TDT) : TDT := fun ρ S Q => t ρ S fun c S1 => if c = true then u ρ S1 Q else Q false S1
def tdOr (t u : TDT) : TDT := fun ρ S Q => t ρ S fun c S1 => if c = true then Q true S1 else u ρ S1 Q
def tdNot (t : TDT) : TDT := fun ρ S Q => t ρ S fun c S1 => Q (!c) S1
theorem dw_and1 (ha : DT X F0 a A) : DW X F0 (.BoolOp .And [a] pos) A := pw_and1 ha
theorem dw_or1 (ha : DT X F0 a A) : DW X F0 (.BoolOp .Or [a] pos) A := pw_or1 ha
theorem DW.pt (h : DW X F0 e A) : DT X F0 e A := PW.pt h
theorem dw_and (ha : DT X F0 a A) (hb : DW X F0 (.BoolOp .And (b :: rest) pos) B) : DW X F0 (.BoolOp .And (a :: b :: rest) pos) (tdAnd A B) :=
  PW.weak (pw_and ha hb) fun σ H Q ⟨F, S, ρ, Q', at0, h, p⟩ => by
    refine TL.go at0 h fun c H1 F1 S1 x1 a1 q1 => ?_
    cases c with
    | true => exact iteT (TL.go a1 q1 fun c H2 F2 S2 x2 a2 q2 => p c H2 F2 S2 (x1.trans x2) a2.sr q2)
    | false => exact iteF (p false H1 F1 S1 x1 a1.sr q1)
theorem dw_or (ha : DT X F0 a A) (hb : DW X F0 (.BoolOp .Or (b :: rest) pos) B) : DW X F0 (.BoolOp .Or (a :: b :: rest) pos) (tdOr A B) :=
  PW.weak (pw_or ha hb) fun σ H Q ⟨F, S, ρ, Q', at0, h, p⟩ => by
    refine TL.go at0 h fun c H1 F1 S1 x1 a1 q1 => ?_
    cases c with
    | false => exact iteF (TL.go a1 q1 fun c H2 F2 S2 x2 a2 q2 => p c H2 F2 S2 (x1.trans x2) a2.sr q2)
    | true => exact iteT (p true H1 F1 S1 x1 a1.sr q1)
theorem dt_not (ha : DT X F0 a A) : DT X F0 (.UnaryOp .Not a pos) (tdNot A) :=
  PT.weak (pt_not ha) fun σ H Q ⟨F, S, ρ, Q', at0, h, p⟩ => TL.go at0 h fun c H1 F1 S1 x1 a1 q1 => p (!c) H1 F1 S1 x1 a1.sr q1
/-- as values: all but the last a bool -/
def tdAndV (ta tb : TD) : TD := fun ρ S Q => ta ρ S fun x S1 => ∃ c, x = .bl c ∧ if c = true then tb ρ S1 Q else Q (.bl false) S1
def tdOrV (ta tb : TD) : TD := fun ρ S Q => ta ρ S fun x S1 => ∃ c, x = .bl c ∧ if c = true then Q (.bl true) S1 else tb ρ S1 Q
def tdNotV (ta : TD) : TD := fun ρ S Q => ta ρ S fun x S1 => ∃ c, x = .bl c ∧ Q (.bl (!c)) S1
theorem de_one {op} (h : DE X F0 a t) : DE X F0 (.BoolOp op [a] pos) t := pe_one h
theorem de_and (ha : DE X F0 a ta) (hb : DE X F0 (.BoolOp .And (b :: rest) pos) tb) : DE X F0 (.BoolOp .And (a :: b :: rest) pos) (tdAndV ta tb) :=
  PE.weak (pe_and ha hb) fun σ H Q ⟨F, S, ρ, Q', at0, h, p⟩ => by
    refine EL.go at0 h fun v H1 F1 S1 d x1 a1 r1 ⟨c, e, q1⟩ => ?_
    subst e
    refine ⟨c, r1.bl_e, ?_⟩
    cases c with
    | true => exact iteT (EL.go a1 q1 fun v2 H2 F2 S2 d2 x2 a2 r2 q2 => p.of (x1.trans x2) a2.sr r2 q2)
    | false => exact iteF (p.of x1 a1.sr (.bl_i _) q1)
theorem de_or (ha : DE X F0 a ta) (hb : DE X F0 (.BoolOp .Or (b :: rest) pos) tb) : DE X F0 (.BoolOp .Or (a :: b :: rest) pos) (tdOrV ta tb) :=
  PE.weak (pe_or ha hb) fun σ H Q ⟨F, S, ρ, Q', at0, h, p⟩ => by
    refine EL.go at0 h fun v H1 F1 S1 d x1 a1 r1 ⟨c, e, q1⟩ => ?_
    subst e
    refine ⟨c, r1.bl_e, ?_⟩
    cases c with
    | false => exact iteF (EL.go a1 q1 fun v2 H2 F2 S2 d2 x2 a2 r2 q2 => p.of (x1.trans x2) a2.sr r2 q2)
    | true => exact iteT (p.of x1 a1.sr (.bl_i _) q1)
theorem de_not (ha : DE X F0 a ta) : DE X F0 (.UnaryOp .Not a pos) (tdNotV ta) :=
  PE.weak (pe_not ha) fun σ H Q ⟨F, S, ρ, Q', at0, h, p⟩ => by
    refine EL.go at0 h fun v H1 F1 S1 d x1 a1 r1 ⟨c, e, q1⟩ => ?_
    subst e
    exact ⟨c, r1.bl_e, p.of x1 a1.sr (.bl_i _) q1⟩
/-- x if c else y -/
def tdIf (c : TDT) (ta tb : TD) : TD := fun ρ S Q => c ρ S fun k S1 => if k = true then ta ρ S1 Q else tb ρ S1 Q
theorem de_if (hc : DT X F0 c A) (ha : DE X F0 a ta) (hb : DE X F0 b tb) : DE X F0 (.IfExp c a b pos) (tdIf A ta tb) :=
  PE.weak (pe_ifExp hc ha hb) fun σ H Q ⟨F, S, ρ, Q', at0, h, p⟩ => by
    refine TL.go at0 h fun c H1 F1 S1 x1 a1 q1 => ?_
    cases c with
    | true => exact iteT (EL.go a1 q1 fun v2 H2 F2 S2 d2 x2 a2 r2 q2 => p.of (x1.trans x2) a2.sr r2 q2)
    | false => exact iteF (EL.go a1 q1 fun v2 H2 F2 S2 d2 x2 a2 r2 q2 => p.of (x1.trans x2) a2.sr r2 q2)
def isNon : D → Bool
  | .non => true
  | _ => false
theorem isNon_rel {K : PySem.W.Frag} {F : Hp} {d : D} {v : V} (r : RelD K F d v) : decide (v = .non) = isNon d := by
  cases d with
  | non => rw [r.non_e]; rfl
  | bl b => rw [r.bl_e]; rfl
  | int i => rw [r.int_e]; rfl
  | str x => rw [r.str_e]; rfl
  | ref a => rw [r.ref_e]; rfl
  | ty a => rw [r.ty_e]; rfl
  | tup ds => obtain ⟨a, vs, rfl, _⟩ := r.tup_e; rfl
  | lst ds => obtain ⟨a, vs, rfl, _⟩ := r.lst_e; rfl
  | scr ds => obtain ⟨a, rfl, _⟩ := r.scr_e; rfl
  | dct ks ds => obtain ⟨a, o, vs, rfl, _⟩ := r.dct_e; rfl
  | ptp ds => obtain ⟨a, o, vs, rfl, _⟩ := r.ptp_e; rfl
def tdIsN (ta : TD) : TD := fun ρ S Q => ta ρ S fun x S1 => Q (.bl (isNon x)) S1
def tdNotN (ta : TD) : TD := fun ρ S Q => ta ρ S fun x S1 => Q (.bl (!isNon x)) S1
theorem isN_go {σ : St} {H : Hp} {Q : VK} (h : EL X.K F0 (tdIsN ta) σ H Q) : tIsN (EL X.K F0 ta) σ H Q := by
  obtain ⟨F, S, ρ, Q', at0, h, p⟩ := h
  exact EL.go at0 h fun v H1 F1 S1 d x1 a1 r1 q1 => p.of x1 a1.sr (by rw [isNon_rel r1]; exact .bl_i _) q1
theorem notN_go {σ : St} {H : Hp} {Q : VK} (h : EL X.K F0 (tdNotN ta) σ H Q) : tNotN (EL X.K F0 ta) σ H Q := by
  obtain ⟨F, S, ρ, Q', at0, h, p⟩ := h
  exact EL.go at0 h fun v H1 F1 S1 d x1 a1 r1 q1 => p.of x1 a1.sr (by rw [isNon_rel r1]; exact .bl_i _) q1
theorem de_isN {j p'} (ha : DE X F0 a ta) : DE X F0 (.Compare a [.Is] [.Constant .none j p'] pos) (tdIsN ta) := PE.weak (pe_cmp (pc_isN ha) rfl) fun _ _ _ h => isN_go h
theorem de_notN {j p'} (ha : DE X F0 a ta) : DE X F0 (.Compare a [.IsNot] [.Constant .none j p'] pos) (tdNotN ta) := PE.weak (pe_cmp (pc_notN ha) rfl) fun _ _ _ h => notN_go h
theorem dt_isN {j p'} (ha : DE X F0 a ta) : DT X F0 (.Compare a [.Is] [.Constant .none j p'] pos) (tdB (tdIsN ta)) :=
  PT.weak (pt_cmp (pc_isN ha) rfl) fun σ H Q ⟨F, S, ρ, Q', at0, h, p⟩ => isN_go ⟨F, S, ρ, _, at0, h, fun v H' F' S' d x r rd q => by
    obtain ⟨k, rfl, q⟩ := q
    exact ⟨k, rd.bl_e, p k H' F' S' x r q⟩⟩
theorem dt_notN {j p'} (ha : DE X F0 a ta) : DT X F0 (.Compare a [.IsNot] [.Constant .none j p'] pos) (tdB (tdNotN ta)) :=
  PT.weak (pt_cmp (pc_notN ha) rfl) fun σ H Q ⟨F, S, ρ, Q', at0, h, p⟩ => notN_go ⟨F, S, ρ, _, at0, h, fun v H' F' S' d x r rd q => by
    obtain ⟨k, rfl, q⟩ := q
    exact ⟨k, rd.bl_e, p k H' F' S' x r q⟩⟩
def tdNil : TDs := fun _ S Q => Q [] S
def tdCons (ta : TD) (tr : TDs) : TDs := fun ρ S Q => ta ρ S fun x S1 => tr ρ S1 fun xs S2 => Q (x :: xs) S2
variable {tr : TDs}
theorem da_nil : DA X F0 [] tdNil := PA.weak pa_nil fun σ H Q ⟨F, S, ρ, Q', a, q, p⟩ => p [] H F S [] (Ext.refl _ _ _) a.sr .nil q
theorem da_cons (ha : DE X F0 e t) (hr : DA X F0 es tr) (hs : starEach (e :: es) X.env = (false, eval e X.env) :: starEach es X.env := by rfl) : DA X F0 (e :: es) (tdCons t tr) :=
  PA.weak (pa_cons ha hr hs) fun σ H Q ⟨F, S, ρ, Q', a, q, p⟩ => by
    refine EL.go a q fun v1 H1 F1 S1 d1 x1 a1 r1 q1 => ?_
    refine AL.go a1 q1 fun v2 H2 F2 S2 d2 x2 a2 r2 q2 => ?_
    exact p _ H2 F2 S2 _ (x1.trans x2) a2.sr (.cons (RelD.mono x2.same _ _ r1) r2) q2
def tdTup (t : TDs) : TD := fun ρ S Q => t ρ S fun xs S1 => xs.length ≤ sizeLine ∧ Q (.tup xs) S1
def tdLst (t : TDs) : TD := fun ρ S Q => t ρ S fun xs S1 => xs.length ≤ sizeLine ∧ Q (.lst xs) S1
def tdBox (t : TDs) : TD := fun ρ S Q => t ρ S fun xs S1 => xs.length ≤ sizeLine ∧ ∀ p, S1 p = none → Q (.ref p) (sup S1 p (.lst xs))
theorem de_tup {x1} (h : DA X F0 es tr) : DE X F0 (.Tuple es x1 pos) (tdTup tr) :=
  PE.weak (pe_tup h) fun σ H Q ⟨F, S, ρ, Q', a, q, p⟩ => by
    refine AL.go a q fun vs H1 F1 S1 ds x1 a1 r1 ⟨hl, q1⟩ => ⟨by rw [r1.length]; exact hl, fun pp hp => ?_⟩
    exact p.of (x1.trans (a1.sr.ext_frz hp)) (a1.sr.frz hp) (RelD.tup_i (.of upd_same) (RelDs.mono (a1.sr.same_frz hp) _ _ r1)) q1
theorem de_lst (h : DA X F0 es tr) : DE X F0 (.List es pos) (tdLst tr) :=
  PE.weak (pe_lst h) fun σ H Q ⟨F, S, ρ, Q', a, q, p⟩ => by
    refine AL.go a q fun vs H1 F1 S1 ds x1 a1 r1 ⟨hl, q1⟩ => ⟨by rw [r1.length]; exact hl, fun pp hp => ?_⟩
    exact p.of (x1.trans (a1.sr.ext_frz hp)) (a1.sr.frz hp) (RelD.lst_i upd_same (RelDs.mono (a1.sr.same_frz hp) _ _ r1)) q1
theorem de_box (h : DA X F0 es tr) : DE X F0 (.List es pos) (tdBox tr) :=
  PE.weak (pe_lst h) fun σ H Q ⟨F, S, ρ, Q', a, q, p⟩ => by
    refine AL.go a q fun vs H1 F1 S1 ds x1 a1 r1 ⟨hl, q1⟩ => ⟨by rw [r1.length]; exact hl, fun pp hp => ?_⟩
    exact p.of (x1.trans (a1.sr.ext_box hp)) (a1.sr.box (o := .lst ds) hp ⟨_, rfl, r1⟩) (.ref_i _) (q1 pp (a1.sr.snone hp))
end
end DL
namespace DL
open PySem PySem.Spec L2
theorem OpR.weak {X : Cx} {f : Value → Value → Sem Value} {r r' : R2} (h : OpR X f r) (w : ∀ x y H Q, r' x y H Q → r x y H Q) : OpR X f r' := fun pins s σ H x y v u Q I rx ry q => h pins s σ H x y v u Q I rx ry (w _ _ _ _ q)
theorem OpR.or {X : Cx} {f : Value → Value → Sem Value} {r r' : R2} (h : OpR X f r) (h' : OpR X f r') : OpR X f (fun x y H Q => r x y H Q ∨ r' x y H Q) := fun pins s σ H x y v u Q I rx ry q =>
  q.elim (h pins s σ H x y v u Q I rx ry) (h' pins s σ H x y v u Q I rx ry)
/-- a list of the store, looked at -/
def vwS (S : Store) (a : Addr) : D := match S a with
  | some (.lst ds) => .lst ds
  | _ => .ref a
def vw (S : Store) : D → D
  | .ref a => vwS S a
  | d => d
theorem vw_ref {S : Store} {a : Addr} {ds : List D} (h : S a = some (.lst ds)) : vw S (.ref a) = .lst ds := by
  show vwS S a = _
  unfold vwS; rw [h]
theorem vw_case (S : Store) (d : D) : vw S d = d ∨ ∃ a ds, d = .ref a ∧ S a = some (.lst ds) ∧ vw S d = .lst ds := by
  cases d with
  | ref a =>
    cases h : S a with
    | none => exact .inl (by show vwS S a = _; unfold vwS; rw [h])
    | some o =>
      cases o with
      | lst ds => exact .inr ⟨a, ds, rfl, h, vw_ref h⟩
      | dic _ => exact .inl (by show vwS S a = _; unfold vwS; rw [h])
      | ins _ _ => exact .inl (by show vwS S a = _; unfold vwS; rw [h])
      | dn _ _ _ => exact .inl (by show vwS S a = _; unfold vwS; rw [h])
  | _ => exact .inl rfl
section
variable {K : PySem.W.Frag} {F : Hp} {S : Store} {H : Hp} {d : D} {v : V}
theorem vw_lst (h : SR K F S H) (r : RelD K F d v) {ds : List D} (e : vw S d = .lst ds) : ∃ a vs, v = .ref a ∧ H a = some (.lst vs) ∧ RelDs K F ds vs := by
  rcases vw_case S d with q | ⟨a, es, rfl, q1, q2⟩
  · rw [q] at e; subst e
    obtain ⟨a, vs, h1, h2, h3⟩ := r.lst_e
    exact ⟨a, vs, h1, h.fro _ _ h2, h3⟩
  · rw [q2] at e; cases e
    obtain ⟨vs, h1, h2⟩ := h.lst q1
    exact ⟨a, vs, r.ref_e, h1, h2⟩
theorem vw_int (r : RelD K F d v) {i : Int} (e : vw S d = .int i) : v = .int i := by
  rcases vw_case S d with q | ⟨a, es, rfl, q1, q2⟩
  · rw [q] at e; subst e; exact r.int_e
  · rw [q2] at e; cases e
theorem vw_bl (r : RelD K F d v) {i : Bool} (e : vw S d = .bl i) : v = .bl i := by
  rcases vw_case S d with q | ⟨a, es, rfl, q1, q2⟩
  · rw [q] at e; subst e; exact r.bl_e
  · rw [q2] at e; cases e
theorem vw_non (r : RelD K F d v) (e : vw S d = .non) : v = .non := by
  rcases vw_case S d with q | ⟨a, es, rfl, q1, q2⟩
  · rw [q] at e; subst e; exact r.non_e
  · rw [q2] at e; cases e
theorem vw_str (r : RelD K F d v) {t : Tx} (e : vw S d = .str t) : v = .str (tS t) := by
  rcases vw_case S d with q | ⟨a, es, rfl, q1, q2⟩
  · rw [q] at e; subst e; exact r.str_e
  · rw [q2] at e; cases e
theorem vw_tup (h : SR K F S H) (r : RelD K F d v) {ds : List D} (e : vw S d = .tup ds) : ∃ a vs, v = .ref a ∧ SqT K H a vs ∧ RelDs K F ds vs := by
  rcases vw_case S d with q | ⟨a, es, rfl, q1, q2⟩
  · rw [q] at e; subst e
    obtain ⟨a, vs, h1, h2, h3⟩ := r.tup_e
    exact ⟨a, vs, h1, seqT h.fro h2, h3⟩
  · rw [q2] at e; cases e
theorem vw_scr (h : SR K F S H) (r : RelD K F d v) {ns : List Int} (e : vw S d = .scr ns) : ∃ a, v = .ref a ∧ SqL K H a (ns.map V.int) := by
  rcases vw_case S d with q | ⟨a, es, rfl, q1, q2⟩
  · rw [q] at e; subst e
    obtain ⟨a, h1, h2⟩ := r.scr_e
    exact ⟨a, h1, h.fro.seq h2⟩
  · rw [q2] at e; cases e
end
def gAdd : DOp := fun S x y Q => match vw S x, vw S y with
  | .int i, .int j => Q (.int (i + j)) S
  | .str a, .str b => a.length + b.length ≤ sizeLine ∧ Q (.str (a ++ b)) S
  | .lst xs, .lst ys => xs.length + ys.length ≤ sizeLine ∧ Q (.lst (xs ++ ys)) S
  | _, _ => False
section
variable {X : Cx}
theorem od_add : OpR X (binaryOp .Add) (OL X.K gAdd) := by
  refine OpR.weak (OpR.or op_add (OpR.or op_add_str op_cat)) fun x y H Q ⟨F, S, dx, dy, Q', sr, rx, ry, g, p⟩ => ?_
  unfold gAdd at g
  split at g
  · rename_i i j e1 e2
    exact .inl ⟨i, j, vw_int rx e1, vw_int ry e2, p.of (Ext.refl _ _ _) sr (.int_i _) g⟩
  · rename_i a b e1 e2
    refine .inr (.inl ⟨_, _, vw_str rx e1, vw_str ry e2, by rw [tS_length, tS_length]; exact g.1, ?_⟩)
    rw [tS_append]
    exact p.of (Ext.refl _ _ _) sr (.str_i _) g.2
  · rename_i a b e1 e2
    obtain ⟨p1, v1, rfl, h1, k1⟩ := vw_lst sr rx e1
    obtain ⟨p2, v2, rfl, h2, k2⟩ := vw_lst sr ry e2
    refine .inr (.inr ⟨p1, p2, v1, v2, rfl, rfl, h1, h2, by rw [k1.length, k2.length]; exact g.1, fun q hq => ?_⟩)
    exact p.of (sr.ext_frz hq) (sr.frz hq) (RelD.lst_i upd_same (RelDs.mono (sr.same_frz hq) _ _ (k1.append k2))) g.2
  · exact g.elim
def gI (C : Int → Int → Prop) (f : Int → Int → D) : DOp := fun S x y Q => match x, y with
  | .int i, .int j => C i j ∧ Q (f i j) S
  | _, _ => False
theorem od_I {f : Value → Value → Sem Value} {C : Int → Int → Prop} {g : Int → Int → Int} (h : OpR X f (rI C fun i j => .int (g i j))) : OpR X f (OL X.K (gI C fun i j => .int (g i j))) :=
  OpR.weak h fun x y H Q ⟨F, S, dx, dy, Q', sr, rx, ry, q, p⟩ => by
    unfold gI at q
    split at q
    · exact ⟨_, _, rx.int_e, ry.int_e, q.1, p.of (Ext.refl _ _ _) sr (.int_i _) q.2⟩
    · exact q.elim
def gI0 (f : Int → Int → D) : DOp := fun S x y Q => match x, y with
  | .int i, .int j => Q (f i j) S
  | _, _ => False
theorem od_I0 {f : Value → Value → Sem Value} {g : Int → Int → Int} (h : OpR X f (rI0 fun i j => .int (g i j))) : OpR X f (OL X.K (gI0 fun i j => .int (g i j))) :=
  OpR.weak h fun x y H Q ⟨F, S, dx, dy, Q', sr, rx, ry, q, p⟩ => by
    unfold gI0 at q
    split at q
    · exact ⟨_, _, rx.int_e, ry.int_e, p.of (Ext.refl _ _ _) sr (.int_i _) q⟩
    · exact q.elim
abbrev gSub : DOp := gI0 fun i j => .int (i - j)
abbrev gMod : DOp := gI (fun _ j => j ≠ 0) fun i j => .int (i.fmod j)
abbrev gDiv : DOp := gI CDivN fun i j => .int (i.fdiv j)
abbrev gPow : DOp := gI CPow fun i j => .int (i ^ j.toNat)
theorem od_sub : OpR X (binaryOp .Sub) (OL X.K gSub) := od_I0 op_sub
theorem od_mod : OpR X (binaryOp .Mod) (OL X.K gMod) := od_I op_modN
theorem od_div : OpR X (binaryOp .FloorDiv) (OL X.K gDiv) := od_I op_fdivN
theorem od_pow : OpR X (binaryOp .Pow) (OL X.K gPow) := od_I op_pow
/-- texts repeated -/
def repT : Nat → Tx → Tx
  | 0, _ => []
  | n + 1, t => t ++ repT n t
theorem foldl_rep (x : Tx) : ∀ (n : Nat) (acc : Array Nat), (List.replicate n x.toArray).foldl (· ++ ·) acc = acc ++ (repT n x).toArray
  | 0, acc => by simp [repT]
  | n + 1, acc => by
    rw [List.replicate_succ, List.foldl_cons, foldl_rep x n]
    simp [repT]
theorem repT_length (n : Nat) (t : Tx) : (repT n t).length = n * t.length := by
  induction n with
  | zero => simp [repT]
  | succ n ih => simp [repT, ih, Nat.succ_mul, Nat.add_comm]
def gMul : DOp := fun S x y Q => match x, y with
  | .int i, .int j => CMul i j ∧ Q (.int (i * j)) S
  | .str t, .int n => 2 ≤ n ∧ n ≤ 1000 ∧ 1 ≤ t.length ∧ t.length ≤ 1000 ∧ Q (.str (repT n.toNat t)) S
  | _, _ => False
theorem op_mulS : OpR X (binaryOp .Mult) (fun x y H Q => ∃ (t : Tx) (n : Int), x = .str (tS t) ∧ y = .int n ∧ 2 ≤ n ∧ n ≤ 1000 ∧ 1 ≤ t.length ∧ t.length ≤ 1000 ∧ Q (.str (tS (repT n.toNat t))) H) := by
  intro pins s σ H x y v u Q I rx ry ⟨t, n, e1, e2, h2, h3, h4, h5, q⟩
  subst e1; subst e2
  obtain ⟨tk, rfl⟩ := rx
  obtain ⟨tk2, rfl⟩ := ry
  have hlen : (tS t).length = t.length := tS_length t
  have n1 : (n == 1) = false := by simp; omega
  have n2 : ((tS t).length == 0) = false := by rw [hlen]; simp; intro z; rw [z] at h4; simp at h4
  have hm : t.length * n.toNat ≤ 1000 * 1000 := Nat.mul_le_mul h5 (by omega)
  refine P.mul_str (by simp; omega) (fun _ _ => ?_) (fun _ _ => ?_) ?_
  · rw [hlen]
    have : (1000 : Int) ≤ (2 ^ 63 - 1) / n := by
      rw [Int.le_ediv_iff_mul_le (by omega)]; omega
    omega
  · rw [hlen]
    show decide _ = false
    exact decide_eq_false (Nat.not_lt.mpr (Nat.le_trans hm (by decide)))
  · rw [if_neg (by omega), if_neg (by rw [n1, n2]; simp), foldl_rep t n.toNat #[]]
    simp only [Made.post]
    refine ⟨by first | trivial | (simp only [Array.empty_append]; show (repT n.toNat t).toArray.size ≤ _; rw [List.size_toArray, repT_length]; exact Nat.le_trans (by rw [Nat.mul_comm]; exact hm) (by decide)), ?_⟩
    simp only [Array.empty_append]
    exact ⟨.str (tS (repT n.toNat t)), H, I.tok _, ⟨_, rfl⟩, q⟩
theorem od_mul : OpR X (binaryOp .Mult) (OL X.K gMul) := by
  refine OpR.weak (OpR.or op_mul op_mulS) fun x y H Q ⟨F, S, dx, dy, Q', sr, rx, ry, g, p⟩ => ?_
  unfold gMul at g
  split at g
  · exact .inl ⟨_, _, rx.int_e, ry.int_e, g.1, p.of (Ext.refl _ _ _) sr (.int_i _) g.2⟩
  · obtain ⟨h2, h3, h4, h5, g⟩ := g
    exact .inr ⟨_, _, rx.str_e, ry.int_e, h2, h3, h4, h5, p.of (Ext.refl _ _ _) sr (.str_i _) g⟩
  · exact g.elim
mutual
def D.data : D → PyData
  | .non => .none
  | .bl b => .bool b
  | .int i => .int i
  | .str t => .str (tS t)
  | .tup ds => .tuple (D.datas ds)
  | .lst ds => .list (D.datas ds)
  | .scr ns => .list (ns.map PyData.int)
  | .ref _ => .none
  | .ty _ => .none
  | .dct _ _ => .none
  | .ptp ds => .tuple (D.datas ds)
def D.datas : List D → List PyData
  | [] => []
  | d :: ds => D.data d :: D.datas ds
end
mutual
/-- nothing but data within -/
def D.pure : D → Bool
  | .ref _ => false
  | .ty _ => false
  | .dct _ _ => false
  | .ptp ds => D.pures ds
  | .tup ds => D.pures ds
  | .lst ds => D.pures ds
  | _ => true
def D.pures : List D → Bool
  | [] => true
  | d :: ds => D.pure d && D.pures ds
end
section
variable {K : PySem.W.Frag} {F : Hp} {S : Store} {H : Hp}
mutual
theorem RelD.dp (e : Same F H) : ∀ (d : D) (v : V), d.pure = true → RelD K F d v → Dp K H v d.data
  | .non, v, _, r => by rw [r.non_e]; unfold D.data; exact .non
  | .bl b, v, _, r => by rw [r.bl_e]; unfold D.data; exact .bl b
  | .int b, v, _, r => by rw [r.int_e]; unfold D.data; exact .int b
  | .str b, v, _, r => by rw [r.str_e]; unfold D.data; exact .str _
  | .tup ds, v, h, r => by
    unfold D.pure at h
    obtain ⟨a, vs, rfl, h2, h3⟩ := r.tup_e
    unfold D.data
    exact .tup (seqT e h2) (RelDs.dp e ds vs h h3)
  | .lst ds, v, h, r => by
    unfold D.pure at h
    obtain ⟨a, vs, rfl, h2, h3⟩ := r.lst_e
    unfold D.data
    exact .lst (.of (e _ _ h2)) (RelDs.dp e ds vs h h3)
  | .scr ns, v, h, r => by
    obtain ⟨a, rfl, h2⟩ := r.scr_e
    unfold D.data
    refine .lst (e.seq h2) ?_
    clear h2 r
    induction ns with
    | nil => exact .nil
    | cons n ns ih => exact .cons (.int n) (ih h)
  | .ref _, _, h, _ => by unfold D.pure at h; cases h
  | .ty _, _, h, _ => by unfold D.pure at h; cases h
  | .dct _ _, _, h, _ => by unfold D.pure at h; cases h
  | .ptp ds, v, h, r => by
    unfold D.pure at h
    obtain ⟨a, o, vs, rfl, h2, _, h3⟩ := r.ptp_e
    unfold D.data
    exact .tup (.inl (.inr ⟨o, e _ _ h2⟩)) (RelDs.dp e ds vs h h3)
theorem RelDs.dp (e : Same F H) : ∀ (ds : List D) (vs : List V), D.pures ds = true → RelDs K F ds vs → DpAll K H vs (D.datas ds)
  | [], vs, _, r => by rw [r.nil_inv]; unfold D.datas; exact .nil
  | d :: ds, vs, h, r => by
    unfold D.pures at h
    obtain ⟨h1, h2⟩ := Bool.and_eq_true_iff.mp h
    obtain ⟨v, q, rfl, h3, h4⟩ := r.cons_inv
    unfold D.datas
    exact .cons (RelD.dp e d v h1 h3) (RelDs.dp e ds q h2 h4)
end
theorem vw_dp (sr : SR K F S H) {d : D} {v : V} (r : RelD K F d v) (hp : (vw S d).pure = true) : Dp K H v (vw S d).data := by
  rcases vw_case S d with q | ⟨a, es, rfl, q1, q2⟩
  · rw [q] at hp ⊢; exact RelD.dp sr.fro d v hp r
  · rw [q2] at hp ⊢
    obtain ⟨vs, h1, h2⟩ := sr.lst q1
    rw [r.ref_e]
    unfold D.pure at hp
    unfold D.data
    exact .lst (.of h1) (RelDs.dp sr.fro es vs hp h2)
end
/-- == of two things that are no lists and no tuples; none: not told -/
def eqS : D → D → Option Bool
  | .non, .non => some true
  | .non, .int _ => some false | .int _, .non => some false
  | .non, .bl _ => some false | .bl _, .non => some false
  | .non, .str _ => some false | .str _, .non => some false
  | .int i, .int j => some (decide (i = j))
  | .bl i, .bl j => some (decide (i = j))
  | .str i, .str j => some (decide (i = j))
  | .int _, .str _ => some false | .str _, .int _ => some false
  | .bl _, .str _ => some false | .str _, .bl _ => some false
  | _, _ => none
theorem eqS_scal {K : PySem.W.Frag} {F : Hp} {x y : D} {v u : V} {b : Bool} (h : eqS x y = some b) (rx : RelD K F x v) (ry : RelD K F y u) : scal v u = true ∧ decide (v = u) = b := by
  unfold eqS at h
  split at h <;> first
    | (cases h; done)
    | (have hb := Option.some.inj h; subst hb
       first
        | (rw [rx.non_e, ry.non_e]; exact ⟨rfl, by simp⟩)
        | (rw [rx.non_e, ry.int_e]; exact ⟨rfl, by simp⟩)
        | (rw [rx.int_e, ry.non_e]; exact ⟨rfl, by simp⟩)
        | (rw [rx.non_e, ry.bl_e]; exact ⟨rfl, by simp⟩)
        | (rw [rx.bl_e, ry.non_e]; exact ⟨rfl, by simp⟩)
        | (rw [rx.non_e, ry.str_e]; exact ⟨rfl, by simp⟩)
        | (rw [rx.str_e, ry.non_e]; exact ⟨rfl, by simp⟩)
        | (rw [rx.int_e, ry.int_e]; exact ⟨rfl, by simp⟩)
        | (rw [rx.bl_e, ry.bl_e]; exact ⟨rfl, by simp⟩)
        | (rw [rx.str_e, ry.str_e]; exact ⟨rfl, by simp⟩)
        | (rw [rx.int_e, ry.str_e]; exact ⟨rfl, by simp⟩)
        | (rw [rx.str_e, ry.int_e]; exact ⟨rfl, by simp⟩)
        | (rw [rx.bl_e, ry.str_e]; exact ⟨rfl, by simp⟩)
        | (rw [rx.str_e, ry.bl_e]; exact ⟨rfl, by simp⟩))
def gEq (f : Bool → Bool) : DOp := fun S x y Q => match eqS x y with
  | some b => Q (.bl (f b)) S
  | none => (vw S x).pure = true ∧ (vw S y).pure = true ∧ SeqAt.shaped (vw S x).data = true ∧ SeqAt.shaped (vw S y).data = true ∧ Q (.bl (f (PyData.eqv (vw S x).data (vw S y).data))) S
theorem od_eq (hu : X.A.units + 64 < cLine) : OpR X (compareOp .Eq) (OL X.K (gEq id)) := by
  refine OpR.weak (OpR.or op_eq (op_eqD hu)) fun x y H Q ⟨F, S, dx, dy, Q', sr, rx, ry, g, p⟩ => ?_
  unfold gEq at g
  split at g
  · rename_i b e
    obtain ⟨h1, h2⟩ := eqS_scal e rx ry
    exact .inl ⟨h1, p.of (Ext.refl _ _ _) sr (by rw [h2]; exact .bl_i _) g⟩
  · obtain ⟨h1, h2, h3, h4, g⟩ := g
    exact .inr ⟨_, _, vw_dp sr rx h1, vw_dp sr ry h2, h3, h4, p.of (Ext.refl _ _ _) sr (.bl_i _) g⟩
theorem od_ne (hu : X.A.units + 64 < cLine) : OpR X (compareOp .NotEq) (OL X.K (gEq not)) := by
  refine OpR.weak (OpR.or op_ne (op_neD hu)) fun x y H Q ⟨F, S, dx, dy, Q', sr, rx, ry, g, p⟩ => ?_
  unfold gEq at g
  split at g
  · rename_i b e
    obtain ⟨h1, h2⟩ := eqS_scal e rx ry
    exact .inl ⟨h1, p.of (Ext.refl _ _ _) sr (by rw [h2]; exact .bl_i _) g⟩
  · obtain ⟨h1, h2, h3, h4, g⟩ := g
    exact .inr ⟨_, _, vw_dp sr rx h1, vw_dp sr ry h2, h3, h4, p.of (Ext.refl _ _ _) sr (.bl_i _) g⟩
/-- order of ints -/
def gOrd (f : Int → Int → Bool) : DOp := fun S x y Q => match x, y with
  | .int i, .int j => Q (.bl (f i j)) S
  | _, _ => False
theorem od_ord {op : CmpOp} {f : Int → Int → Bool} (h : OpR X (compareOp op) (rI0 fun i j => .bl (f i j))) : OpR X (compareOp op) (OL X.K (gOrd f)) :=
  OpR.weak h fun x y H Q ⟨F, S, dx, dy, Q', sr, rx, ry, q, p⟩ => by
    unfold gOrd at q
    split at q
    · exact ⟨_, _, rx.int_e, ry.int_e, p.of (Ext.refl _ _ _) sr (.bl_i _) q⟩
    · exact q.elim
/-- in: a sign in a text; a flat thing in a list or tuple of flat things -/
def flatD : D → Bool
  | .non => true | .bl _ => true | .int _ => true | .str _ => true
  | _ => false
def eqF : D → D → Bool
  | .non, .non => true
  | .bl a, .bl b => a == b
  | .bl a, .int b => (if a then 1 else 0) == b
  | .int a, .bl b => a == (if b then 1 else 0)
  | .int a, .int b => a == b
  | .str a, .str b => a == b
  | _, _ => false
theorem flat_rel {K : PySem.W.Frag} {F : Hp} {x : D} {v : V} (h : flatD x = true) (r : RelD K F x v) : flatV v = true := by
  cases x <;> first
    | (cases h; done)
    | (rw [r.non_e]; rfl) | (rw [r.bl_e]; rfl) | (rw [r.int_e]; rfl) | (rw [r.str_e]; rfl)
theorem tS_beq (a b : Tx) : (tS a == tS b) = (a == b) := by
  rw [Bool.eq_iff_iff]
  simp
theorem eqF_rel {K : PySem.W.Frag} {F : Hp} {x y : D} {v u : V} (h : flatD x = true) (g : flatD y = true) (r : RelD K F x v) (q : RelD K F y u) : eqV v u = eqF x y := by
  cases x <;> first
    | (cases h; done)
    | (cases y <;> first
        | (cases g; done)
        | (first
            | rw [r.non_e] | rw [r.bl_e] | rw [r.int_e] | rw [r.str_e]
           first
            | rw [q.non_e] | rw [q.bl_e] | rw [q.int_e] | rw [q.str_e]
           first | rfl | exact tS_beq _ _))
def gIn (f : Bool → Bool) : DOp := fun S x y Q => match x, vw S y with
  | .str t, .str z => ∃ c, t = [c] ∧ Q (.bl (f (decide (c ∈ z)))) S
  | x, .lst ds => flatD x = true ∧ ds.all flatD = true ∧ Q (.bl (f (ds.any fun y => eqF y x))) S
  | x, .tup ds => flatD x = true ∧ ds.all flatD = true ∧ Q (.bl (f (ds.any fun y => eqF y x))) S
  | _, _ => False
theorem any_rel {K : PySem.W.Frag} {F : Hp} {x : D} {v : V} (h : flatD x = true) (r : RelD K F x v) : ∀ {ds : List D} {vs : List V}, ds.all flatD = true → RelDs K F ds vs → vs.all flatV = true ∧ inV v vs = ds.any fun y => eqF y x
  | [], _, _, q => by rw [q.nil_inv]; exact ⟨rfl, rfl⟩
  | d :: ds, _, hd, q => by
    obtain ⟨w, vs, rfl, h1, h2⟩ := q.cons_inv
    rw [List.all_cons, Bool.and_eq_true] at hd
    obtain ⟨k1, k2⟩ := any_rel h r hd.2 h2
    refine ⟨by rw [List.all_cons, k1, flat_rel hd.1 h1]; rfl, ?_⟩
    show (List.any (w :: vs) fun y => eqV y v) = _
    rw [List.any_cons, List.any_cons, eqF_rel hd.1 h h1 r]
    rw [show (vs.any fun y => eqV y v) = inV v vs from rfl, k2]
theorem in_case {F : Hp} {S : Store} {H : Hp} {dx dy : D} {x y : V} {Q : VK} {Q' : D → Store → Prop} {f : Bool → Bool} (sr : SR X.K F S H) (rx : RelD X.K F dx x) (ry : RelD X.K F dy y) (g : gIn f S dx dy Q') (p : Post X.K F S H Q' Q) :
    (∃ (c : Nat) (z : Str), x = .str ⟨#[c]⟩ ∧ y = .str z ∧ Q (.bl (f (decide (c ∈ z.cps.toList)))) H) ∨
    ∃ a xs, y = .ref a ∧ (SqL X.K H a xs ∨ SqT X.K H a xs) ∧ flatV x = true ∧ xs.all flatV = true ∧ Q (.bl (f (inV x xs))) H := by
  unfold gIn at g
  split at g
  · rename_i t z e
    obtain ⟨c, rfl, g⟩ := g
    refine .inl ⟨c, tS z, rx.str_e, vw_str ry e, ?_⟩
    exact p.of (Ext.refl _ _ _) sr (.bl_i _) (by simpa using g)
  · rename_i e
    obtain ⟨h1, h2, g⟩ := g
    obtain ⟨a, vs, rfl, k1, k2⟩ := vw_lst sr ry e
    obtain ⟨k3, k4⟩ := any_rel h1 rx h2 k2
    exact .inr ⟨a, vs, rfl, .inl (.of k1), flat_rel h1 rx, k3, p.of (Ext.refl _ _ _) sr (by rw [k4]; exact .bl_i _) g⟩
  · rename_i e
    obtain ⟨h1, h2, g⟩ := g
    obtain ⟨a, vs, rfl, k1, k2⟩ := vw_tup sr ry e
    obtain ⟨k3, k4⟩ := any_rel h1 rx h2 k2
    exact .inr ⟨a, vs, rfl, .inr k1, flat_rel h1 rx, k3, p.of (Ext.refl _ _ _) sr (by rw [k4]; exact .bl_i _) g⟩
  · exact g.elim
theorem od_in : OpR X (compareOp .In) (OL X.K (gIn id)) := by
  refine OpR.weak (OpR.or op_in_sign op_in_seq) fun x y H Q ⟨F, S, dx, dy, Q', sr, rx, ry, g, p⟩ => ?_
  rcases in_case sr rx ry g p with ⟨c, z, h1, h2, h3⟩ | ⟨a, xs, h1, h2, h3, h4, h5⟩
  · exact .inl ⟨c, z, h1, h2, h3⟩
  · exact .inr ⟨a, xs, h1, h2, h3, h4, h5⟩
theorem od_nin : OpR X (compareOp .NotIn) (OL X.K (gIn not)) := by
  refine OpR.weak (OpR.or op_notIn_sign op_notIn_seq) fun x y H Q ⟨F, S, dx, dy, Q', sr, rx, ry, g, p⟩ => ?_
  rcases in_case sr rx ry g p with ⟨c, z, h1, h2, h3⟩ | ⟨a, xs, h1, h2, h3, h4, h5⟩
  · exact .inl ⟨c, z, h1, h2, h3⟩
  · exact .inr ⟨a, xs, h1, h2, h3, h4, h5⟩
end
end DL
namespace DL
open PySem PySem.Spec L2
theorem IxR.weak {X : Cx} {r r' : R2} (h : IxR X r) (w : ∀ x y H Q, r' x y H Q → r x y H Q) : IxR X r' := fun va sl pins s σ H x y v u Q I rx ry q => h va sl pins s σ H x y v u Q I rx ry (w _ _ _ _ q)
def ixP (S : Store) (x y : D) : Option D := match vw S x, y with
  | .tup ds, .int i => atI ds i
  | .lst ds, .int i => atI ds i
  | .scr ns, .int i => (atI ns i).map D.int
  | .str t, .int i => if t.length ≤ sizeLine then (atI t i).map fun c => .str [c] else none
  | _, _ => none
def gIx : DOp := fun S x y Q => ∃ d, ixP S x y = some d ∧ Q d S
theorem atI_rel {K : PySem.W.Frag} {F : Hp} {ds : List D} {vs : List V} {i : Int} {d : D} (r : RelDs K F ds vs) (h : atI ds i = some d) : ∃ v, atI vs i = some v ∧ RelD K F d v := by
  unfold atI at h ⊢
  rw [r.length]
  cases q : ixN ds.length i with
  | none => rw [q] at h; cases h
  | some j =>
    rw [q] at h
    exact r.get (show ds[j]? = some d from h)
theorem atI_map {α β : Type} (f : α → β) (xs : List α) (i : Int) : atI (xs.map f) i = (atI xs i).map f := by
  unfold atI
  rw [List.length_map]
  cases ixN xs.length i with
  | none => rfl
  | some j => exact List.getElem?_map
section
variable {X : Cx} {F0 : Ent} {e a b c lo hi : Expr} {es : List Expr} {t ta tb : TD} {tr : TDs} {pos p2 : Pos}
theorem ox_ix : IxR X (OL X.K gIx) := by
  refine IxR.weak (IxR.or (ix_list (X := X)) (IxR.or (ix_tup (X := X)) ix_str)) fun x y H Q ⟨F, S, dx, dy, Q', sr, rx, ry, g, p⟩ => ?_
  obtain ⟨d, g, q⟩ := g
  unfold ixP at g
  split at g
  · rename_i ds i e
    obtain ⟨a, vs, rfl, h1, h2⟩ := vw_tup sr rx e
    obtain ⟨v, h3, h4⟩ := atI_rel h2 g
    exact .inr (.inl ⟨a, vs, _, v, rfl, ry.int_e, h1, h3, p.of (Ext.refl _ _ _) sr h4 q⟩)
  · rename_i ds i e
    obtain ⟨a, vs, rfl, h1, h2⟩ := vw_lst sr rx e
    obtain ⟨v, h3, h4⟩ := atI_rel h2 g
    exact .inl ⟨a, vs, _, v, rfl, ry.int_e, .of h1, h3, p.of (Ext.refl _ _ _) sr h4 q⟩
  · rename_i ds i e
    obtain ⟨a, rfl, h1⟩ := vw_scr sr rx e
    cases h : atI ds i with
    | none => rw [h] at g; cases g
    | some n =>
      rw [h] at g; cases g
      exact .inl ⟨a, _, _, .int n, rfl, ry.int_e, h1, by rw [atI_map, h]; rfl, p.of (Ext.refl _ _ _) sr (.int_i _) q⟩
  · rename_i t i e
    split at g
    · rename_i hl
      cases h : atI t i with
      | none => rw [h] at g; cases g
      | some n =>
        rw [h] at g; cases g
        exact .inr (.inr ⟨tS t, i, n, vw_str rx e, ry.int_e, by rw [tS_length]; exact hl, by simpa using h, p.of (Ext.refl _ _ _) sr (.str_i _) q⟩)
    · cases g
  · cases g
theorem de_ix (ha : DE X F0 a ta) (hb : DE X F0 b tb) (hs : PlainIx b := by exact fun _ _ => rfl) : DE X F0 (.Subscript a b pos) (tdOp gIx ta tb) := PE.weak (pe_ix ox_ix ha hb hs) fun _ _ _ h => op_go h
abbrev TDO := Rho → Store → (Option Int → Store → Prop) → Prop
def OLo (K : PySem.W.Frag) (F0 : Ent) (t : TDO) : TO := fun σ H Q => ∃ F S ρ Q', At K F0 F S H ρ σ ∧ t ρ S Q' ∧ ∀ o H' F' S', Ext F S H F' S' H' → SR K F' S' H' → Q' o S' → Q o H'
def DO' (X : Cx) (F0 : Ent) (e : Option Expr) (t : TDO) : Prop := PO X e (OLo X.K F0 t)
def tdNoP : TDO := fun _ S Q => Q none S
def tdP (t : TD) : TDO := fun ρ S Q => t ρ S fun x S1 => match x with
  | .int i => Q (some i) S1
  | _ => False
theorem PO.weak {e : Option Expr} {t t' : TO} (h : PO X e t) (w : ∀ σ H Q, t' σ H Q → t σ H Q) : PO X e t' := ⟨fun pins s σ H Q I q => h.run pins s σ H Q I (w _ _ _ q)⟩
theorem do_none : DO' X F0 none tdNoP := PO.weak po_none fun σ H Q ⟨F, S, ρ, Q', a, q, p⟩ => p none H F S (Ext.refl _ _ _) a.sr q
theorem do_some (h : DE X F0 e t) : DO' X F0 (some e) (tdP t) := PO.weak (po_some h) fun σ H Q ⟨F, S, ρ, Q', a, q, p⟩ => by
  refine EL.go a q fun v1 H1 F1 S1 d1 x1 a1 r1 q1 => ?_
  split at q1
  · exact ⟨_, r1.int_e, p _ H1 F1 S1 x1 a1.sr q1⟩
  · exact q1.elim
/-- a part of a list by places -/
def cutL {α : Type} (xs : List α) (lo hi : Option Int) : List α := (xs.drop (HT.sIx xs.length 0 lo)).take (HT.sIx xs.length xs.length hi - HT.sIx xs.length 0 lo)
theorem cutL_rel {K : PySem.W.Frag} {F : Hp} {ds : List D} {vs : List V} (r : RelDs K F ds vs) (lo hi : Option Int) : RelDs K F (cutL ds lo hi) (cutV vs lo hi) := by
  unfold cutL cutV
  rw [r.length]
  exact (r.drop _).take _
def gSl (S : Store) (x : D) (lo hi : Option Int) (Q : D → Store → Prop) : Prop := match vw S x with
  | .str t => t.length ≤ sizeLine ∧ Q (.str (cutL t lo hi)) S
  | .lst ds => Q (.lst (cutL ds lo hi)) S
  | .tup ds => ¬ (HT.sIx ds.length 0 lo = 0 ∧ HT.sIx ds.length ds.length hi = ds.length) ∧ Q (.tup (cutL ds lo hi)) S
  | _ => False
def tdSl (ta : TD) (tl th : TDO) : TD := fun ρ S Q => ta ρ S fun x S1 => tl ρ S1 fun lo S2 => th ρ S2 fun hi S3 => gSl S3 x lo hi Q
theorem de_sl {tl th : TDO} {lo hi : Option Expr} (ha : DE X F0 a ta) (hl : DO' X F0 lo tl) (hh : DO' X F0 hi th) : DE X F0 (.Subscript a (.Slice lo hi none p2) pos) (tdSl ta tl th) :=
  PE.weak (pe_slice (SlR.or sl_str (SlR.or sl_list sl_tup)) ha hl hh) fun σ H Q ⟨F, S, ρ, Q', at0, q, p⟩ => by
    refine EL.go at0 q fun v H1 F1 S1 d x1 a1 r1 q1 => ?_
    refine ⟨F1, S1, ρ, _, a1, q1, fun l H2 F2 S2 x2 s2 q2 => ?_⟩
    have a2 := a1.next x2 s2
    refine ⟨F2, S2, ρ, _, a2, q2, fun u H3 F3 S3 x3 s3 q3 => ?_⟩
    have x13 := (x1.trans x2).trans x3
    have r3 := RelD.mono x3.same _ _ (RelD.mono x2.same _ _ r1)
    unfold gSl at q3
    split at q3
    · rename_i t e
      refine .inl ⟨tS t, vw_str r3 e, by rw [tS_length]; exact q3.1, ?_⟩
      have ec : cutS (tS t) l u = tS (cutL t l u) := by
        unfold cutS cutL
        rw [tS_length]
      rw [ec]
      exact p.of x13 s3 (.str_i _) q3.2
    · rename_i ds e
      obtain ⟨b, vs, rfl, h1, h2⟩ := vw_lst s3 r3 e
      refine .inr (.inl ⟨b, vs, rfl, .of h1, fun z hz => ?_⟩)
      exact p.of (x13.trans (s3.ext_frz hz)) (s3.frz hz) (RelD.lst_i upd_same (RelDs.mono (s3.same_frz hz) _ _ (cutL_rel h2 _ _))) q3
    · rename_i ds e
      obtain ⟨b, vs, rfl, h1, h2⟩ := vw_tup s3 r3 e
      refine .inr (.inr ⟨b, vs, rfl, h1, by rw [h2.length]; exact q3.1, fun z hz => ?_⟩)
      exact p.of (x13.trans (s3.ext_frz hz)) (s3.frz hz) (RelD.tup_i (.of upd_same) (RelDs.mono (s3.same_frz hz) _ _ (cutL_rel h2 _ _))) q3.2
    · exact q3.elim
abbrev DCall := Store → List D → (D → Store → Prop) → Prop
def CL (K : PySem.W.Frag) (g : DCall) : List V → Hp → VK → Prop := fun xs H Q => ∃ F S ds Q', SR K F S H ∧ RelDs K F ds xs ∧ g S ds Q' ∧ Post K F S H Q' Q
theorem CallR.weak {f : Value} {r r' : List V → Hp → VK → Prop} (h : CallR X f r) (w : ∀ xs H Q, r' xs H Q → r xs H Q) : CallR X f r' := fun pins s σ H xs us Q I rx q => h pins s σ H xs us Q I rx (w _ _ _ q)
def tdCB (g : DCall) (t : TDs) : TD := fun ρ S Q => t ρ S fun ds S1 => g S1 ds Q
theorem cb_go {g : DCall} {σ : L2.St} {H : Hp} {Q : VK} (h : EL X.K F0 (tdCB g tr) σ H Q) : tCB (CL X.K g) (AL X.K F0 tr) σ H Q := by
  obtain ⟨F, S, ρ, Q', a, h, p⟩ := h
  exact AL.go a h fun v1 H1 F1 S1 d1 x1 a1 r1 q1 => ⟨F1, S1, d1, Q', a1.sr, r1, q1, p.ext x1⟩
theorem de_cB {x : Str} {id : String} {g : DCall} {p : Pos} (hc : CallR X (.builtin id) (CL X.K g)) (hg : Gl X x) (hm : X.mg x = none) (hv : bootBuiltins x = some (.builtin id)) (ha : DA X F0 (e :: es) tr) (hn : x ≠ "__name__" := by decide) (hdb : (x == ("__debug__" : Str)) = false := by decide)
    (he : starEach (e :: es) X.env = (false, eval e X.env) :: starEach es X.env := by rfl) (hpl : (backTo pos (starEach es X.env)).any (·.1) = false := by rfl) : DE X F0 (.Call (.Name x p) (e :: es) [] pos) (tdCB g tr) :=
  PE.weak (pe_callB hc hg hm hv ha hn hdb he hpl) fun _ _ _ h => cb_go h
theorem de_cT {x : Str} {T : String} {g : DCall} {p : Pos} (hc : CallR X (.type T) (CL X.K g)) (hg : Gl X x) (hm : X.mg x = none) (hv : bootBuiltins x = some (.type T)) (ha : DA X F0 (e :: es) tr) (hn : x ≠ "__name__" := by decide) (hdb : (x == ("__debug__" : Str)) = false := by decide)
    (he : starEach (e :: es) X.env = (false, eval e X.env) :: starEach es X.env := by rfl) (hpl : (backTo pos (starEach es X.env)).any (·.1) = false := by rfl) : DE X F0 (.Call (.Name x p) (e :: es) [] pos) (tdCB g tr) :=
  PE.weak (pe_callTy hc hg hm hv ha hn hdb he hpl) fun _ _ _ h => cb_go h
theorem rds1 {K : PySem.W.Frag} {F : Hp} {d : D} {vs : List V} (h : RelDs K F [d] vs) : ∃ v, vs = [v] ∧ RelD K F d v := by
  obtain ⟨v, r, rfl, h1, h2⟩ := h.cons_inv
  rw [h2.nil_inv]
  exact ⟨v, rfl, h1⟩
theorem rds2 {K : PySem.W.Frag} {F : Hp} {d d' : D} {vs : List V} (h : RelDs K F [d, d'] vs) : ∃ v w, vs = [v, w] ∧ RelD K F d v ∧ RelD K F d' w := by
  obtain ⟨v, r, rfl, h1, h2⟩ := h.cons_inv
  obtain ⟨w, rfl, h3⟩ := rds1 h2
  exact ⟨v, w, rfl, h1, h3⟩
/-- len -/
def gLen : DCall := fun S ds Q => match ds with
  | [x] => match vw S x with
    | .str t => t.length ≤ sizeLine ∧ Q (.int t.length) S
    | .lst ds => Q (.int ds.length) S
    | .tup ds => Q (.int ds.length) S
    | .scr ds => Q (.int ds.length) S
    | _ => False
  | _ => False
theorem oc_len : CallR X (.builtin "len") (CL X.K gLen) := CallR.weak call_len fun xs H Q ⟨F, S, ds, Q', sr, r, g, p⟩ => by
  unfold gLen at g
  split at g
  · rename_i x
    obtain ⟨v, rfl, rv⟩ := rds1 r
    split at g
    · rename_i t e
      refine ⟨v, t.length, rfl, ?_, p.of (Ext.refl _ _ _) sr (.int_i _) g.2⟩
      rw [vw_str rv e]
      exact ⟨by rw [tS_length]; exact g.1, (tS_length t).symm⟩
    · rename_i t e
      obtain ⟨a, vs, rfl, h1, h2⟩ := vw_lst sr rv e
      exact ⟨_, t.length, rfl, .inl ⟨vs, .of h1, h2.length.symm⟩, p.of (Ext.refl _ _ _) sr (.int_i _) g⟩
    · rename_i t e
      obtain ⟨a, vs, rfl, h1, h2⟩ := vw_tup sr rv e
      exact ⟨_, t.length, rfl, .inr ⟨vs, h1, h2.length.symm⟩, p.of (Ext.refl _ _ _) sr (.int_i _) g⟩
    · rename_i t e
      obtain ⟨a, rfl, h1⟩ := vw_scr sr rv e
      exact ⟨_, t.length, rfl, .inl ⟨_, h1, (List.length_map _).symm⟩, p.of (Ext.refl _ _ _) sr (.int_i _) g⟩
    · exact g.elim
  · exact g.elim
/-- int -/
def gInt : DCall := fun S ds Q => match ds with
  | [.int i] => Q (.int i) S
  | [.bl k] => Q (.int (if k then 1 else 0)) S
  | _ => False
theorem oc_int : CallR X (.type "int") (CL X.K gInt) := CallR.weak call_int1 fun xs H Q ⟨F, S, ds, Q', sr, r, g, p⟩ => by
  unfold gInt at g
  split at g
  · obtain ⟨v, rfl, rv⟩ := rds1 r
    exact .inl ⟨_, by rw [rv.int_e], p.of (Ext.refl _ _ _) sr (.int_i _) g⟩
  · obtain ⟨v, rfl, rv⟩ := rds1 r
    exact .inr ⟨_, by rw [rv.bl_e], p.of (Ext.refl _ _ _) sr (.int_i _) g⟩
  · exact g.elim
/-- list(..): a new list, as data -/
def gList : DCall := fun S ds Q => match ds with
  | [x] => match vw S x with
    | .lst ds => Q (.lst ds) S
    | .tup ds => Q (.lst ds) S
    | .scr ns => Q (.lst (ns.map D.int)) S
    | _ => False
  | _ => False
theorem oc_list : CallR X (.type "list") (CL X.K gList) := CallR.weak call_list_of fun xs H Q ⟨F, S, ds, Q', sr, r, g, p⟩ => by
  unfold gList at g
  split at g
  · rename_i x
    obtain ⟨v, rfl, rv⟩ := rds1 r
    split at g
    · rename_i t e
      obtain ⟨a, vs, rfl, h1, h2⟩ := vw_lst sr rv e
      exact ⟨a, vs, rfl, .inl (.of h1), fun l hl => p.of (sr.ext_frz hl) (sr.frz hl) (RelD.lst_i upd_same (RelDs.mono (sr.same_frz hl) _ _ h2)) g⟩
    · rename_i t e
      obtain ⟨a, vs, rfl, h1, h2⟩ := vw_tup sr rv e
      exact ⟨a, vs, rfl, .inr h1, fun l hl => p.of (sr.ext_frz hl) (sr.frz hl) (RelD.lst_i upd_same (RelDs.mono (sr.same_frz hl) _ _ h2)) g⟩
    · rename_i t e
      obtain ⟨a, rfl, h1⟩ := vw_scr sr rv e
      exact ⟨a, _, rfl, .inl h1, fun l hl => p.of (sr.ext_frz hl) (sr.frz hl) (RelD.lst_i upd_same (RelDs.ints t)) g⟩
    · exact g.elim
  · exact g.elim
/-- max of a list of ints -/
def intsD : List D → Option (List Int)
  | [] => some []
  | .int i :: ds => (intsD ds).map (i :: ·)
  | _ => none
theorem intsD_map : ∀ {ds : List D} {ns : List Int}, intsD ds = some ns → ds = ns.map D.int
  | [], ns, h => by cases h; rfl
  | .int i :: ds, ns, h => by
    unfold intsD at h
    cases q : intsD ds with
    | none => rw [q] at h; cases h
    | some ms => rw [q] at h; cases h; rw [intsD_map q]; rfl
  | .non :: ds, ns, h => by cases h
  | .bl _ :: ds, ns, h => by cases h
  | .str _ :: ds, ns, h => by cases h
  | .tup _ :: ds, ns, h => by cases h
  | .lst _ :: ds, ns, h => by cases h
  | .scr _ :: ds, ns, h => by cases h
  | .ref _ :: ds, ns, h => by cases h
  | .ty _ :: ds, ns, h => by cases h
  | .ptp _ :: ds, ns, h => by cases h
theorem intsD_of (ns : List Int) : intsD (ns.map D.int) = some ns := by
  induction ns with
  | nil => rfl
  | cons n ns ih => show (intsD (ns.map D.int)).map (n :: ·) = _; rw [ih]; rfl
theorem ints_rel {K : PySem.W.Frag} {F : Hp} : ∀ {ns : List Int} {vs : List V}, RelDs K F (ns.map D.int) vs → vs = ns.map V.int
  | [], _, h => h.nil_inv
  | n :: ns, _, h => by
    obtain ⟨v, r, rfl, h1, h2⟩ := h.cons_inv
    rw [h1.int_e, ints_rel h2]; rfl
def maxL : List Int → Int
  | [] => 0
  | [n] => n
  | n :: m :: ns => max n (maxL (m :: ns))
theorem maxL_mem : ∀ (n : Int) (ns : List Int), maxL (n :: ns) ∈ n :: ns ∧ ∀ y ∈ n :: ns, y ≤ maxL (n :: ns)
  | n, [] => ⟨by simp [maxL], fun y hy => by simp at hy; subst hy; simp [maxL]⟩
  | n, m :: ns => by
    obtain ⟨h1, h2⟩ := maxL_mem m ns
    have e : maxL (n :: m :: ns) = max n (maxL (m :: ns)) := rfl
    constructor
    · rw [e]
      by_cases h : n ≤ maxL (m :: ns)
      · rw [Int.max_eq_right h]; exact List.mem_cons_of_mem _ h1
      · rw [Int.max_eq_left (by omega)]; exact List.mem_cons_self
    · intro y hy
      rw [e]
      rcases List.mem_cons.mp hy with rfl | hy
      · exact Int.le_max_left _ _
      · exact Int.le_trans (h2 y hy) (Int.le_max_right _ _)
theorem maxL_unique {ns : List Int} {m : Int} (h : m ∈ ns) (g : ∀ y ∈ ns, y ≤ m) : maxL ns = m := by
  cases ns with
  | nil => cases h
  | cons n ns =>
    obtain ⟨h1, h2⟩ := maxL_mem n ns
    have := h2 m h
    have := g _ h1
    omega
def gMax : DCall := fun S ds Q => match ds with
  | [x] => match vw S x with
    | .lst ds => ∃ ns, intsD ds = some ns ∧ 0 < ns.length ∧ Q (.int (maxL ns)) S
    | _ => False
  | _ => False
theorem oc_max (hc : X.calm = true) : CallR X (.builtin "max") (CL X.K gMax) := CallR.weak (cr_max hc) fun xs H Q ⟨F, S, ds, Q', sr, r, g, p⟩ => by
  unfold gMax at g
  split at g
  · obtain ⟨v, rfl, rv⟩ := rds1 r
    split at g
    · rename_i t e
      obtain ⟨ns, h0, hn, g⟩ := g
      obtain ⟨a, vs, rfl, h1, h2⟩ := vw_lst sr rv e
      rw [intsD_map h0] at h2
      rw [ints_rel h2] at h1
      refine ⟨a, ns, rfl, .of h1, hn, fun m hm hle => ?_⟩
      rw [← maxL_unique hm hle]
      exact p.of (Ext.refl _ _ _) sr (.int_i _) g
    · exact g.elim
  · exact g.elim
/-- isinstance with a built-in class -/
def tyD : D → Option String
  | .non => some "NoneType" | .bl _ => some "bool" | .int _ => some "int" | .str _ => some "str" | .tup _ => some "tuple" | .lst _ => some "list" | .scr _ => some "list"
  | _ => none
def gIsi : DCall := fun S ds Q => match ds with
  | [x, .ty T] => ∃ U b, tyD (vw S x) = some U ∧ kitB U T = some b ∧ Q (.bl b) S
  | _ => False
theorem vw_ty {K : PySem.W.Frag} {F : Hp} {S : Store} {H : Hp} {d : D} {v : V} {U : String} (sr : SR K F S H) (r : RelD K F d v) (h : tyD (vw S d) = some U) : TyX K H v (.type U) := by
  cases e : vw S d with
  | non => rw [e] at h; cases h; rw [vw_non r e]; exact .base .non
  | bl b => rw [e] at h; cases h; rw [vw_bl r e]; exact .base (.bl _)
  | int i => rw [e] at h; cases h; rw [vw_int r e]; exact .base (.int _)
  | str t => rw [e] at h; cases h; rw [vw_str r e]; exact .base (.str _)
  | lst ds => rw [e] at h; cases h; obtain ⟨a, vs, rfl, h1, _⟩ := vw_lst sr r e; exact .base (.lst h1)
  | tup ds =>
    rw [e] at h; cases h
    obtain ⟨a, vs, rfl, h1, _⟩ := vw_tup sr r e
    rcases h1 with (h1 | ⟨o, h1⟩) | ⟨o, its, n, h1, h2, _⟩
    · exact .base (.tup h1)
    · exact .fTuple h1
    · exact .kTuple h1 h2
  | scr ns =>
    rw [e] at h; cases h
    obtain ⟨a, rfl, h1⟩ := vw_scr sr r e
    rcases h1 with (h1 | ⟨o, h1⟩) | ⟨o, its, n, h1, h2, _⟩
    · exact .base (.lst h1)
    · exact .base (.frz h1)
    · exact .kList h1 h2
  | ref a => rw [e] at h; cases h
  | ty n => rw [e] at h; cases h
  | dct _ _ => rw [e] at h; cases h
  | ptp _ => rw [e] at h; cases h
theorem oc_isi : CallR X (.builtin "isinstance") (CL X.K gIsi) := CallR.weak call_isi fun xs H Q ⟨F, S, ds, Q', sr, r, g, p⟩ => by
  unfold gIsi at g
  split at g
  · rename_i x T
    obtain ⟨U, b, h1, h2, g⟩ := g
    obtain ⟨v, w, rfl, rv, rw'⟩ := rds2 r
    exact ⟨v, w, .type U, .type T, b, rfl, by rw [rw'.ty_e]; exact .ty T, vw_ty sr rv h1, kit_ty h2, p.of (Ext.refl _ _ _) sr (.bl_i _) g⟩
  · exact g.elim
/-- str(n) -/
def gStr : DCall := fun S ds Q => match ds with
  | [.int i] => i.natAbs.log2 < 1920 ∧ Q (.str (tx (toString i))) S
  | _ => False
theorem oc_str : CallR X (.type "str") (CL X.K gStr) := CallR.weak call_str_int fun xs H Q ⟨F, S, ds, Q', sr, r, g, p⟩ => by
  unfold gStr at g
  split at g
  · rename_i i
    obtain ⟨v, rfl, rv⟩ := rds1 r
    refine ⟨i, by rw [rv.int_e], g.1, ?_⟩
    have e : ((toString i : String) : Str) = tS (tx (toString i)) := ofString_tx _
    exact p.of (Ext.refl _ _ _) sr (by show RelD _ _ _ (V.str ((toString i : String) : Str)); rw [e]; exact .str_i _) g.2
  · exact g.elim
def tdApp (to te : TD) : TD := fun ρ S Q => to ρ S fun x S1 => (∃ a ds, x = .ref a ∧ S1 a = some (.lst ds)) ∧ te ρ S1 fun y S2 => ∃ a ds, x = .ref a ∧ S2 a = some (.lst ds) ∧ ds.length < sizeLine ∧ Q .non (sup S2 a (.lst (ds ++ [y])))
theorem de_app {apos cpos : Pos} (ho : DE X F0 a ta) (he : DE X F0 e t)
    (hbase : attributeBase a "append" X.env (eval a X.env) = eval a X.env := by rfl)
    (hfew : ((backTo cpos (starEach [e] X.env)).all (fun x => !x.1) && (backToKw cpos (keywordEach [] X.env)).all (fun x => x.1.isSome)
      && decide ([e].length + ([] : List Keyword).length + (if ([] : List Keyword).isEmpty then 0 else 1) < 30)) = true := by rfl)
    (hline : (apos.endLine == cpos.line) = true := by rfl) (hs : starEach [e] X.env = (false, eval e X.env) :: starEach [] X.env := by rfl) :
    DE X F0 (.Call (.Attribute a "append" apos) [e] [] cpos) (tdApp ta t) :=
  PE.weak (pe_bm PySem.F.plainAttrs_list PySem.F.slot_list_append PySem.F.type_list_append mt_append ho (da_cons he da_nil hs) hbase hfew hline hs rfl) fun σ H Q ⟨F, S, ρ, Q', at0, h, p⟩ => by
    refine EL.go at0 h fun v H1 F1 S1 d x1 a1 r1 ⟨⟨b, ds, e1, e2⟩, q1⟩ => ?_
    subst e1
    obtain ⟨vs, h1, h2⟩ := a1.sr.lst e2
    rw [r1.ref_e]
    refine ⟨.inl ⟨rfl, vs, .of h1⟩, ?_⟩
    refine AL.go (Q1 := fun ds S2 => ∃ y, ds = [y] ∧ ∃ a ds, D.ref b = .ref a ∧ S2 a = some (.lst ds) ∧ ds.length < sizeLine ∧ Q' .non (sup S2 a (.lst (ds ++ [y])))) a1 ?_ fun ws H2 F2 S2 ys x2 a2 r2 q2 => ?_
    · show t ρ S1 fun y S2 => _
      have : (fun (y : D) (S2 : Store) => ∃ a ds, D.ref b = .ref a ∧ S2 a = some (.lst ds) ∧ ds.length < sizeLine ∧ Q' .non (sup S2 a (.lst (ds ++ [y])))) = fun y S2 => tdNil ρ S2 fun xs S3 => ∃ z, y :: xs = [z] ∧ ∃ a ds, D.ref b = .ref a ∧ S3 a = some (.lst ds) ∧ ds.length < sizeLine ∧ Q' .non (sup S3 a (.lst (ds ++ [z]))) := by
        funext y S2
        refine propext ⟨fun h => ⟨y, rfl, h⟩, fun ⟨z, hz, h⟩ => ?_⟩
        cases hz
        exact h
      rw [← this]
      exact q1
    · obtain ⟨y, rfl, a', es, e3, e4, hl, q3⟩ := q2
      cases e3
      obtain ⟨w, rfl, rw'⟩ := rds1 r2
      obtain ⟨us, k1, k2⟩ := a2.sr.lst e4
      refine ⟨b, us, w, rfl, rfl, k1, by rw [k2.length]; exact hl, ?_⟩
      exact p.of ((x1.trans x2).trans (a2.sr.ext_write e4)) (a2.sr.write (o := .lst _) e4 ⟨_, rfl, k2.append (.cons rw' .nil)⟩) .non_i q3
/-- sep.join(a list of texts) -/
def txsD : List D → Option (List Tx)
  | [] => some []
  | .str i :: ds => (txsD ds).map (i :: ·)
  | _ => none
theorem txsD_map : ∀ {ds : List D} {ns : List Tx}, txsD ds = some ns → ds = ns.map D.str
  | [], ns, h => by cases h; rfl
  | .str i :: ds, ns, h => by
    unfold txsD at h
    cases q : txsD ds with
    | none => rw [q] at h; cases h
    | some ms => rw [q] at h; cases h; rw [txsD_map q]; rfl
  | .non :: ds, ns, h => by cases h
  | .bl _ :: ds, ns, h => by cases h
  | .int _ :: ds, ns, h => by cases h
  | .tup _ :: ds, ns, h => by cases h
  | .lst _ :: ds, ns, h => by cases h
  | .scr _ :: ds, ns, h => by cases h
  | .ref _ :: ds, ns, h => by cases h
  | .ty _ :: ds, ns, h => by cases h
  | .ptp _ :: ds, ns, h => by cases h
theorem txsD_of (ns : List Tx) : txsD (ns.map D.str) = some ns := by
  induction ns with
  | nil => rfl
  | cons n ns ih => show (txsD (ns.map D.str)).map (n :: ·) = _; rw [ih]; rfl
theorem txs_rel {K : PySem.W.Frag} {F : Hp} : ∀ {ns : List Tx} {vs : List V}, RelDs K F (ns.map D.str) vs → vs = (ns.map tS).map V.str
  | [], _, h => h.nil_inv
  | n :: ns, _, h => by
    obtain ⟨v, r, rfl, h1, h2⟩ := h.cons_inv
    rw [h1.str_e, txs_rel h2]; rfl
def joinT (s : Tx) : List Tx → Tx
  | [] => []
  | [t] => t
  | t :: u :: ts => t ++ s ++ joinT s (u :: ts)
def gJoin (S : Store) (x y : D) (Q : D → Store → Prop) : Prop := match x, vw S y with
  | .str s, .lst ds => ∃ ts, txsD ds = some ts ∧ (ts.map (·.length)).sum + ts.length * s.length ≤ 16777216 ∧ Q (.str (joinT s ts)) S
  | _, _ => False
end
end DL
namespace DL
open PySem PySem.Spec L2
theorem join_glued (s : Tx) : ∀ ts : List Tx, Str.join (tS s) (ts.map tS) = tS (joinT s ts)
  | [] => rfl
  | [t] => rfl
  | t :: u :: ts => by
    have ih := join_glued s (u :: ts)
    show tS t ++ tS s ++ Str.join (tS s) ((u :: ts).map tS) = _
    rw [ih, tS_append, tS_append]; rfl
section
variable {X : Cx} {F0 : Ent} {e a b c lo hi : Expr} {es : List Expr} {t ta tb tv : TD} {tr : TDs} {pos pos' p2 : Pos}
def tdJoin (ta tb : TD) : TD := fun ρ S Q => ta ρ S fun x S1 => (∃ s, x = .str s) ∧ tb ρ S1 fun y S2 => gJoin S2 x y Q
theorem de_join {apos : Pos} (ho : DE X F0 a ta) (he : DE X F0 e tb)
    (hs : starEach [e] X.env = [(false, eval e X.env)] := by rfl) (hbase : attributeBase a "join" X.env (eval a X.env) = eval a X.env := by rfl) (hline : (apos.endLine == pos.line) = true := by rfl) :
    DE X F0 (.Call (.Attribute a "join" apos) [e] [] pos) (tdJoin ta tb) :=
  PE.weak (pe_join ho he hs hbase hline) fun σ H Q ⟨F, S, ρ, Q', at0, h, p⟩ => by
    refine EL.go at0 h fun v H1 F1 S1 d x1 a1 r1 ⟨⟨s, e1⟩, q1⟩ => ?_
    subst e1
    refine ⟨⟨_, r1.str_e⟩, ?_⟩
    refine EL.go a1 q1 fun v2 H2 F2 S2 d2 x2 a2 r2 q2 => ?_
    unfold gJoin at q2
    split at q2
    · rename_i s' ds e1 e2
      cases e1
      obtain ⟨ts, h1, h2, q2⟩ := q2
      obtain ⟨b, vs, rfl, k1, k2⟩ := vw_lst a2.sr r2 e2
      rw [txsD_map h1] at k2
      rw [txs_rel k2] at k1
      refine ⟨tS s, b, ts.map tS, r1.str_e, rfl, .inl (.of k1), ?_, ?_⟩
      · rw [List.map_map, List.length_map, tS_length]
        rw [show (List.map ((fun x => x.length) ∘ tS) ts) = ts.map (·.length) from List.map_congr_left fun x _ => tS_length x]
        exact h2
      · show Q (.str (Builtin.Str.glued (tS s) (ts.map tS))) H2
        rw [StrLaws.glued_eq_join, join_glued]
        exact p.of (x1.trans x2) a2.sr (.str_i _) q2
    · exact q2.elim
def tdFld (ta : TD) (f : Str) : TD := fun ρ S Q => ta ρ S fun x S1 => ∃ a C fs d, x = .ref a ∧ S1 a = some (.ins C fs) ∧ fs.lookup f = some d ∧ Q d S1
/-- classes whose attributes are plain, and the names that they don't bind -/
structure Plain (K : PySem.W.Frag) (f : Str) (C : Addr) : Prop where
  cl : Cls K C
  no : NoAttr K C f
def tdFldC (K : PySem.W.Frag) (ta : TD) (f : Str) : TD := fun ρ S Q => ta ρ S fun x S1 => ∃ a C fs d, x = .ref a ∧ S1 a = some (.ins C fs) ∧ Plain K f C ∧ fs.lookup f = some d ∧ Q d S1
theorem de_fld {f : Str} (he : DE X F0 e t) (hb : attributeBase e f X.env (eval e X.env) = eval e X.env := by rfl) : DE X F0 (.Attribute e f pos) (tdFldC X.K t f) :=
  PE.weak (pe_fld he hb) fun σ H Q ⟨F, S, ρ, Q', at0, h, p⟩ => by
    refine EL.go at0 h fun v H1 F1 S1 d x1 a1 r1 ⟨b, C, fs, d', e1, e2, pl, l, q1⟩ => ?_
    subst e1
    obtain ⟨dx, ws, h1, h2⟩ := a1.sr.ins e2
    obtain ⟨w, l1, l2⟩ := h2.lookup l
    exact ⟨b, C, dx, ws, w, r1.ref_e, h1, pl.cl, pl.no, l1, p.of x1 a1.sr l2 q1⟩
def SPost (K : PySem.W.Frag) (F : Hp) (S : Store) (H : Hp) (D' : DEnds) (D : Ends) : Prop :=
  (∀ σ' H' F' S' ρ', Ext F S H F' S' H' → SR K F' S' H' → RelE K F' ρ' σ' → D'.nx ρ' S' → D.nx σ' H') ∧
  (∀ v H' F' S' d, Ext F S H F' S' H' → SR K F' S' H' → RelD K F' d v → D'.rt d S' → D.rt v H') ∧
  (∀ σ' H' F' S' ρ', Ext F S H F' S' H' → SR K F' S' H' → RelE K F' ρ' σ' → D'.bk ρ' S' → D.bk σ' H') ∧
  (∀ σ' H' F' S' ρ', Ext F S H F' S' H' → SR K F' S' H' → RelE K F' ρ' σ' → D'.ct ρ' S' → D.ct σ' H')
theorem SPost.ext {K : PySem.W.Frag} {F F1 : Hp} {S S1 : Store} {H H1 : Hp} {D' : DEnds} {D : Ends} (p : SPost K F S H D' D) (x : Ext F S H F1 S1 H1) : SPost K F1 S1 H1 D' D :=
  ⟨fun _ _ _ _ _ y => p.1 _ _ _ _ _ (x.trans y), fun _ _ _ _ _ y => p.2.1 _ _ _ _ _ (x.trans y), fun _ _ _ _ _ y => p.2.2.1 _ _ _ _ _ (x.trans y), fun _ _ _ _ _ y => p.2.2.2 _ _ _ _ _ (x.trans y)⟩
def SL (K : PySem.W.Frag) (F0 : Ent) (t : TDS) : TS := fun D σ H => ∃ F S ρ D', At K F0 F S H ρ σ ∧ t D' ρ S ∧ SPost K F S H D' D
def DS (X : Cx) (F0 : Ent) (st : Stmt) (t : TDS) : Prop := PS X st (SL X.K F0 t)
def DSs (X : Cx) (F0 : Ent) (st : List Stmt) (t : TDS) : Prop := PSs X st (SL X.K F0 t)
variable {st : Stmt} {rest : List Stmt} {u v : TDS}
theorem SPost.nx {K : PySem.W.Frag} {F : Hp} {S : Store} {H : Hp} {D' : DEnds} {D : Ends} (p : SPost K F S H D' D) {F0 : Ent} {F1 : Hp} {S1 : Store} {H1 : Hp} {ρ : Rho} {σ : L2.St} (x : Ext F S H F1 S1 H1) (a : At K F0 F1 S1 H1 ρ σ) (q : D'.nx ρ S1) : D.nx σ H1 := p.1 _ _ _ _ _ x a.sr a.env q
def tdNext : TDS := fun D ρ S => D.nx ρ S
def tdSeq (t u : TDS) : TDS := fun D ρ S => t { D with nx := u D } ρ S
theorem dss_nil : DSs X F0 [] tdNext := PSs.weak pss_nil fun D σ H ⟨F, S, ρ, D', a, h, p⟩ => p.nx (Ext.refl _ _ _) a h
theorem dss_cons (h1 : DS X F0 st u) (h2 : DSs X F0 rest v) : DSs X F0 (st :: rest) (tdSeq u v) :=
  PSs.weak (pss_cons h1 h2) fun D σ H ⟨F, S, ρ, D', a, h, p⟩ =>
    ⟨F, S, ρ, _, a, h, fun σ' H' F' S' ρ' x r ev q => ⟨F', S', ρ', D', ⟨a.f0.trans x, r, ev⟩, q, p.ext x⟩, p.2.1, p.2.2.1, p.2.2.2⟩
theorem dss_one (h1 : DS X F0 st u) : DSs X F0 [st] u := pss_one h1
theorem dss_never : DSs X F0 rest fun _ _ _ => False := PSs.weak pss_never fun D σ H ⟨F, S, ρ, D', a, h, p⟩ => h.elim
def tdBreak : TDS := fun D ρ S => D.bk ρ S
def tdCont : TDS := fun D ρ S => D.ct ρ S
theorem ds_pass : DS X F0 (.Pass pos) tdNext := PS.weak ps_pass fun D σ H ⟨F, S, ρ, D', a, h, p⟩ => p.nx (Ext.refl _ _ _) a h
theorem ds_break : DS X F0 (.Break pos) tdBreak := PS.weak ps_break fun D σ H ⟨F, S, ρ, D', a, h, p⟩ => p.2.2.1 _ _ _ _ _ (Ext.refl _ _ _) a.sr a.env h
theorem ds_cont : DS X F0 (.Continue pos) tdCont := PS.weak ps_continue fun D σ H ⟨F, S, ρ, D', a, h, p⟩ => p.2.2.2 _ _ _ _ _ (Ext.refl _ _ _) a.sr a.env h
def tdDrop (t : TD) : TDS := fun D ρ S => t ρ S fun _ S1 => D.nx ρ S1
theorem ds_expr (he : DE X F0 e t) (hs : swapsWith e none pos.line X.env = pure false := by rfl) : DS X F0 (.Expr e pos) (tdDrop t) :=
  PS.weak (ps_expr he hs) fun D σ H ⟨F, S, ρ, D', a, h, p⟩ => EL.go a h fun v H1 F1 S1 d x1 a1 r1 q1 => p.nx x1 a1 q1
def tdRet (t : TD) : TDS := fun D ρ S => t ρ S D.rt
theorem ds_ret (he : DE X F0 e t) : DS X F0 (.Return (some e) pos) (tdRet t) :=
  PS.weak (ps_ret he) fun D σ H ⟨F, S, ρ, D', a, h, p⟩ => EL.go a h fun v H1 F1 S1 d x1 a1 r1 q1 => p.2.1 _ _ _ _ _ x1 a1.sr r1 q1
def tdRetN : TDS := fun D _ S => D.rt .non S
theorem ds_retN : DS X F0 (.Return none pos) tdRetN :=
  PS.weak ps_retN fun D σ H ⟨F, S, ρ, D', a, h, p⟩ => p.2.1 _ _ _ _ _ (Ext.refl _ _ _) a.sr .non_i h
def tdIfS (c : TDT) (t u : TDS) : TDS := fun D ρ S => c ρ S fun b S1 => if b = true then t D ρ S1 else u D ρ S1
theorem ds_if {c : Expr} {A B : List Stmt} {tc : TDT} (hc : DT X F0 c tc) (ha : DSs X F0 A u) (hb : DSs X F0 B v) : DS X F0 (.If c A B pos) (tdIfS tc u v) :=
  PS.weak (ps_if hc ha hb) fun D σ H ⟨F, S, ρ, D', a, h, p⟩ => by
    refine TL.go a h fun c H1 F1 S1 x1 a1 q1 => ?_
    cases c with
    | true => exact iteT ⟨F1, S1, ρ, D', a1, q1, p.ext x1⟩
    | false => exact iteF ⟨F1, S1, ρ, D', a1, q1, p.ext x1⟩
abbrev TDG := D → Rho → Store → (Rho → Store → Prop) → Prop
abbrev TDGs := List D → Rho → Store → (Rho → Store → Prop) → Prop
def GL (K : PySem.W.Frag) (F0 : Ent) (g : TDG) : TG := fun v σ H Q => ∃ F S ρ d Q', At K F0 F S H ρ σ ∧ RelD K F d v ∧ g d ρ S Q' ∧ ∀ σ' H' F' S' ρ', Ext F S H F' S' H' → SR K F' S' H' → RelE K F' ρ' σ' → Q' ρ' S' → Q σ' H'
def GLs (K : PySem.W.Frag) (F0 : Ent) (g : TDGs) : TGs := fun v σ H Q => ∃ F S ρ d Q', At K F0 F S H ρ σ ∧ RelDs K F d v ∧ g d ρ S Q' ∧ ∀ σ' H' F' S' ρ', Ext F S H F' S' H' → SR K F' S' H' → RelE K F' ρ' σ' → Q' ρ' S' → Q σ' H'
def DG (X : Cx) (F0 : Ent) (tg : Expr) (g : TDG) : Prop := PG X tg (GL X.K F0 g)
def DGs (X : Cx) (F0 : Ent) (tg : List Expr) (g : TDGs) : Prop := PGs X tg (GLs X.K F0 g)
theorem PG.weak {tg : Expr} {g g' : TG} (h : PG X tg g) (w : ∀ v σ H Q, g' v σ H Q → g v σ H Q) : PG X tg g' := ⟨fun pins s σ H v u Q I r q => h.run pins s σ H v u Q I r (w _ _ _ _ q)⟩
theorem PGs.weak {tg : List Expr} {g g' : TGs} (h : PGs X tg g) (w : ∀ v σ H Q, g' v σ H Q → g v σ H Q) : PGs X tg g' := ⟨fun pins s σ H v u Q I r q => h.run pins s σ H v u Q I r (w _ _ _ _ q)⟩
def gdName (i : Nat) : TDG := fun d ρ S Q => Q (ρ.set i (some d)) S
theorem dg_name (i : Nat) {x : Str} (hN : X.N.Nodup) (hi : X.N[i]? = some x := by rfl) (hx : Loc X.env.scope x := by first | exact Or.inl rfl | exact Or.inr rfl) (hf : X.fn x = true ∨ X.env.scope.names.lookup x = some .local := by first | exact .inl rfl | exact .inr rfl | assumption) : DG X F0 (.Name x pos) (gdName i) :=
  PG.weak (pg_name (i := i) hN hi hx hf) fun v σ H Q ⟨F, S, ρ, d, Q', a, r, g, p⟩ => p _ _ _ _ _ (Ext.refl _ _ _) a.sr (a.env.set r i) g
def gdNil : TDGs := fun ds ρ S Q => ds = [] ∧ Q ρ S
def gdCons (g : TDG) (gs : TDGs) : TDGs := fun ds ρ S Q => ∃ d r, ds = d :: r ∧ g d ρ S fun ρ1 S1 => gs r ρ1 S1 Q
theorem dgs_nil : DGs X F0 [] gdNil := PGs.weak pgs_nil fun v σ H Q ⟨F, S, ρ, d, Q', a, r, ⟨g1, g2⟩, p⟩ => by
  subst g1
  exact ⟨r.nil_inv, p _ _ _ _ _ (Ext.refl _ _ _) a.sr a.env g2⟩
theorem dgs_cons {g : TDG} {gs : TDGs} (h1 : DG X F0 e g) (h2 : DGs X F0 es gs) (hs : (assignEach (e :: es) X.env).map (·.2) = assign e X.env :: (assignEach es X.env).map (·.2) := by rfl) : DGs X F0 (e :: es) (gdCons g gs) :=
  PGs.weak (pgs_cons h1 h2 hs) fun v σ H Q ⟨F, S, ρ, ds, Q', a, r, ⟨d, dr, g1, g2⟩, p⟩ => by
    subst g1
    obtain ⟨w, ws, rfl, k1, k2⟩ := r.cons_inv
    refine ⟨w, ws, rfl, F, S, ρ, d, _, a, k1, g2, fun σ' H' F' S' ρ' x sr ev q => ?_⟩
    exact ⟨F', S', ρ', dr, Q', ⟨a.f0.trans x, sr, ev⟩, RelDs.mono x.same _ _ k2, q, fun σ2 H2 F2 S2 ρ2 y => p _ _ _ _ _ (x.trans y)⟩
def gdTup (n : Nat) (gs : TDGs) : TDG := fun d ρ S Q => ∃ ds, d = .tup ds ∧ ds.length = n ∧ gs ds ρ S Q
theorem dg_tup {k : Nat} {gs : TDGs} {n : Nat} (hc : X.calm = true) (h : DGs X F0 es gs) (hn : (assignEach es X.env).length = n := by rfl) (hst : (assignEach es X.env).findIdx? (·.1) = none := by rfl) : DG X F0 (.Tuple es k pos) (gdTup n gs) :=
  PG.weak (pg_tup hc h hn hst) fun v σ H Q ⟨F, S, ρ, d, Q', a, r, ⟨ds, g1, g2, g3⟩, p⟩ => by
    subst g1
    obtain ⟨b, vs, rfl, k1, k2⟩ := r.tup_e
    exact ⟨b, vs, rfl, seqT a.sr.fro k1, by rw [k2.length]; exact g2, F, S, ρ, ds, Q', a, k2, g3, p⟩
def tdAsg (t : TD) (g : TDG) : TDS := fun D ρ S => t ρ S fun x S1 => g x ρ S1 D.nx
theorem ds_asg {tg : Expr} {g : TDG} (he : DE X F0 e t) (hg : DG X F0 tg g) (hs : swapsWithSole [tg] e pos.line X.env = pure false := by rfl) (hw : swappedStores [tg] e X.env = pure none := by rfl)
    (h1 : (assignEach [tg] X.env).map (·.2) = [assign tg X.env] := by rfl) : DS X F0 (.Assign [tg] e pos) (tdAsg t g) :=
  PS.weak (ps_asg he hg hs hw h1) fun D σ H ⟨F, S, ρ, D', a, h, p⟩ => EL.go a h fun v H1 F1 S1 d x1 a1 r1 q1 =>
    ⟨F1, S1, ρ, d, _, a1, r1, q1, fun σ' H' F' S' ρ' y sr ev q => p.1 _ _ _ _ _ (x1.trans y) sr ev q⟩
theorem ds_set (i : Nat) {x : Str} (hN : X.N.Nodup) (he : DE X F0 e t) (hi : X.N[i]? = some x := by rfl) (hx : Loc X.env.scope x := by first | exact Or.inl rfl | exact Or.inr rfl) (hs : swapsWith e (some (.Name x pos')) pos.line X.env = pure false := by rfl) (hf : X.fn x = true ∨ X.env.scope.names.lookup x = some .local := by first | exact .inl rfl | exact .inr rfl | assumption) :
    DS X F0 (.Assign [.Name x pos'] e pos) (tdAsg t (gdName i)) :=
  PS.weak (ps_set (i := i) hN hi hx he hs hf) fun D σ H ⟨F, S, ρ, D', a, h, p⟩ => EL.go a h fun v H1 F1 S1 d x1 a1 r1 q1 => p.1 _ _ _ _ _ x1 a1.sr (a1.env.set r1 i) q1
/-- name op= e -/
def tdAug (i : Nat) (t : TD) (g : DOp) : TDS := fun D ρ S => ∃ x, ρ[i]? = some (some x) ∧ t ρ S fun y S1 => g S1 x y fun z S2 => D.nx (ρ.set i (some z)) S2
def DIp (X : Cx) (op : Operator) (g : DOp) : Prop := PIp X op (OL X.K g)
theorem PIp.weak {op : Operator} {r r' : TIp} (h : PIp X op r) (w : ∀ x y H Q, r' x y H Q → r x y H Q) : PIp X op r' := fun pins s σ H x y v u Q I r1 r2 q => h pins s σ H x y v u Q I r1 r2 (w _ _ _ _ q)
theorem dip_add : DIp X .Add (gI0 fun i j => .int (i + j)) := PIp.weak ip_add fun x y H Q ⟨F, S, dx, dy, Q', sr, rx, ry, q, p⟩ => by
  unfold gI0 at q
  split at q
  · exact ⟨_, _, rx.int_e, ry.int_e, p.of (Ext.refl _ _ _) sr (.int_i _) q⟩
  · exact q.elim
theorem dip_sub : DIp X .Sub (gI0 fun i j => .int (i - j)) := PIp.weak ip_sub fun x y H Q ⟨F, S, dx, dy, Q', sr, rx, ry, q, p⟩ => by
  unfold gI0 at q
  split at q
  · exact ⟨_, _, rx.int_e, ry.int_e, p.of (Ext.refl _ _ _) sr (.int_i _) q⟩
  · exact q.elim
theorem ds_aug (i : Nat) {x : Str} {op : Operator} {g : DOp} (hN : X.N.Nodup) (he : DE X F0 e t) (ho : DIp X op g) (hi : X.N[i]? = some x := by rfl) (hx : Loc X.env.scope x := by first | exact Or.inl rfl | exact Or.inr rfl) (hf : X.fn x = true ∨ X.env.scope.names.lookup x = some .local := by first | exact .inl rfl | exact .inr rfl | assumption) :
    DS X F0 (.AugAssign (.Name x pos') op e pos) (tdAug i t g) :=
  PS.weak (ps_aug (i := i) hN hi hx he ho hf) fun D σ H ⟨F, S, ρ, D', a, ⟨d0, e0, h⟩, p⟩ => by
    obtain ⟨v0, h1, h2⟩ := a.env.2 i d0 e0
    refine ⟨v0, h1, EL.go a h fun v H1 F1 S1 d x1 a1 r1 q1 => ?_⟩
    exact ⟨F1, S1, d0, d, _, a1.sr, RelD.mono x1.same _ _ h2, r1, q1, fun w H2 F2 S2 d2 x2 sr rd q => p.1 _ _ _ _ _ (x1.trans x2) sr ((a1.next x2 sr).env.set rd i) q⟩
/-- o.f = e -/
def putFD (f : Str) (d : D) : List (Str × D) → List (Str × D)
  | [] => [(f, d)]
  | (g, x) :: r => if g = f then (g, d) :: r else (g, x) :: putFD f d r
theorem putFD_rel {K : PySem.W.Frag} {F : Hp} {f : Str} {d : D} {v : V} (r : RelD K F d v) : ∀ {fs : List (Str × D)} {ws : List (Str × V)}, RelF K F fs ws → RelF K F (putFD f d fs) (putF f v ws)
  | [], _, h => by rw [show _ = _ from h]; exact ⟨v, [], rfl, r, rfl⟩
  | (g, x) :: fs, _, h => by
    obtain ⟨w, ws, rfl, h1, h2⟩ := h
    unfold putFD putF
    by_cases e : g = f
    · rw [if_pos e, if_pos e]; exact ⟨v, ws, rfl, r, h2⟩
    · rw [if_neg e, if_neg e]; exact ⟨w, _, rfl, h1, putFD_rel r h2⟩
def tdPutF (K : PySem.W.Frag) (to te : TD) (f : Str) : TDS := fun D ρ S => te ρ S fun y S1 => to ρ S1 fun x S2 => ∃ a C fs, x = .ref a ∧ S2 a = some (.ins C fs) ∧ Plain K f C ∧ fs.length < 1000 ∧ D.nx ρ (sup S2 a (.ins C (putFD f y fs)))
theorem ds_putF {o : Expr} {f : Str} {to : TD} (ho : DE X F0 o to) (he : DE X F0 e t) (hs : swapsWith e (some (.Attribute o f pos')) pos.line X.env = pure false := by rfl) : DS X F0 (.Assign [.Attribute o f pos'] e pos) (tdPutF X.K to t f) :=
  PS.weak (ps_fld ho he hs) fun D σ H ⟨F, S, ρ, D', a, h, p⟩ => EL.go a h fun v H1 F1 S1 d x1 a1 r1 q1 => EL.go a1 q1 fun v2 H2 F2 S2 d2 x2 a2 r2 ⟨b, C, fs, e1, e2, pl, hl, q⟩ => by
    subst e1
    obtain ⟨dx, ws, h1, h2⟩ := a2.sr.ins e2
    refine ⟨b, C, dx, ws, r2.ref_e, h1, pl.cl, pl.no, by rw [h2.length]; exact hl, ?_⟩
    exact p.1 _ _ _ _ _ ((x1.trans x2).trans (a2.sr.ext_write e2)) (a2.sr.write (o := .ins C (putFD f d fs)) e2 ⟨dx, _, rfl, putFD_rel (RelD.mono x2.same _ _ r1) h2⟩) a2.env q
/-- o.f += e -/
def tdAugF (K : PySem.W.Frag) (to te : TD) (f : Str) (g : Int → Int → Int) : TDS := fun D ρ S => to ρ S fun x S1 => ∃ a C fs i, x = .ref a ∧ S1 a = some (.ins C fs) ∧ Plain K f C ∧ fs.lookup f = some (.int i) ∧
  te ρ S1 fun y S2 => ∃ j fs', y = .int j ∧ S2 a = some (.ins C fs') ∧ fs'.length < 1000 ∧ D.nx ρ (sup S2 a (.ins C (putFD f (.int (g i j)) fs')))
theorem ds_augF {o : Expr} {f : Str} {to : TD} {op : Operator} {g : Int → Int → Int} {rd : V → V → Hp → VK → Prop} (ho : DE X F0 o to) (he : DE X F0 e t) (hop : InOp X op rd) (hrd : ∀ i j H (Q : VK), Q (.int (g i j)) H → rd (.int i) (.int j) H Q) :
    DS X F0 (.AugAssign (.Attribute o f pos') op e pos) (tdAugF X.K to t f g) :=
  PS.weak (ps_fldaug ho he hop) fun D σ H ⟨F, S, ρ, D', a, h, p⟩ => EL.go a h fun v H1 F1 S1 d x1 a1 r1 ⟨b, C, fs, i, e1, e2, pl, l, q1⟩ => by
    subst e1
    obtain ⟨dx, ws, h1, h2⟩ := a1.sr.ins e2
    obtain ⟨w, l1, l2⟩ := h2.lookup l
    obtain rfl := l2.int_e
    refine ⟨b, C, dx, ws, _, r1.ref_e, h1, pl.cl, pl.no, l1, ?_⟩
    refine EL.go a1 q1 fun v2 H2 F2 S2 d2 x2 a2 r2 ⟨j, fs', e3, e4, hl, q⟩ => ?_
    subst e3
    obtain rfl := r2.int_e
    obtain ⟨dx', ws', h3, h4⟩ := a2.sr.ins e4
    refine hrd _ _ _ _ ⟨dx', ws', h3, by rw [h4.length]; exact hl, ?_⟩
    exact p.1 _ _ _ _ _ ((x1.trans x2).trans (a2.sr.ext_write e4)) (a2.sr.write (o := .ins C (putFD f (.int (g i j)) fs')) e4 ⟨dx', _, rfl, putFD_rel (.int_i _) h4⟩) a2.env q
theorem rd_add : ∀ i j H (Q : VK), Q (.int (i + j)) H → rAdd (.int i) (.int j) H Q := fun i j H Q q => ⟨i, j, rfl, rfl, q⟩
theorem rd_sub : ∀ i j H (Q : VK), Q (.int (i - j)) H → rSub (.int i) (.int j) H Q := fun i j H Q q => ⟨i, j, rfl, rfl, q⟩
def gSet (S : Store) (o i v : D) (Q : Store → Prop) : Prop := ∃ a ds k j, o = .ref a ∧ i = .int k ∧ S a = some (.lst ds) ∧ ixN ds.length k = some j ∧ Q (sup S a (.lst (ds.set j v)))
def gdSub (to ti : TD) : TDG := fun v ρ S Q => to ρ S fun o S1 => ti ρ S1 fun i S2 => gSet S2 o i v fun S3 => Q ρ S3
theorem dg_sub {o i : Expr} {to ti : TD} (ho : DE X F0 o to) (hi : DE X F0 i ti)
    (ha : ∀ v, assign (.Subscript o i pos) X.env v = (do
      let ov ← holding [v] (eval o X.env)
      let iv ← holding [v, ov] (eval i X.env)
      standAt pos
      holding [v, ov, iv] (setItem ov iv v)
      release [v, ov, iv] []) := by intro _; rfl) : DG X F0 (.Subscript o i pos) (gdSub to ti) :=
  PG.weak (pg_sub ho hi set_list ha) fun v σ H Q ⟨F, S, ρ, d, Q', a, r, g, p⟩ => EL.go a g fun v1 H1 F1 S1 d1 x1 a1 r1 q1 => EL.go a1 q1 fun v2 H2 F2 S2 d2 x2 a2 r2 ⟨b, ds, k, j, e1, e2, e3, e4, q⟩ => by
    subst e1; subst e2
    obtain ⟨vs, h1, h2⟩ := a2.sr.lst e3
    refine ⟨b, vs, k, j, (RelD.mono x2.same _ _ r1).ref_e, r2.int_e, h1, by rw [h2.length]; exact e4, ?_⟩
    exact p _ _ _ _ _ ((x1.trans x2).trans (a2.sr.ext_write e3)) (a2.sr.write (o := .lst _) e3 ⟨_, rfl, h2.set (RelD.mono x2.same _ _ (RelD.mono x1.same _ _ r)) j⟩) a2.env q
theorem pget_list : PGet X (fun o i H Q => ∃ p xs k v, o = .ref p ∧ i = .int k ∧ 0 ≤ k ∧ SqL X.K H p xs ∧ xs[k.toNat]? = some v ∧ Q v H) := by
  intro pins s σ H o i ov iv Q I ro ri ⟨p, xs, k, v, e1, e2, hk, hs, hv, q⟩
  subst e1; subst e2
  cases ro
  obtain ⟨tk, rfl⟩ := ri
  obtain ⟨its, r, pl, hz⟩ := I.list hs
  obtain ⟨w, hw, rw'⟩ := r.get hv
  have hlt : k.toNat < xs.length := (List.getElem?_eq_some_iff.mp hv).1
  have hn : (sizeLine : Int) < 2 ^ 63 := by decide
  exact wpAny_getItem_list pl.isList hk (by omega) (by simpa using hw) ⟨v, H, I, rw', q⟩
def tdAugS (to ti te : TD) (g : Int → Int → Int) : TDS := fun D ρ S => to ρ S fun o S1 => ti ρ S1 fun i S2 => ∃ a ds k n, o = .ref a ∧ i = .int k ∧ 0 ≤ k ∧ S2 a = some (.lst ds) ∧ ds[k.toNat]? = some (.int n) ∧
  te ρ S2 fun y S3 => ∃ m ds', y = .int m ∧ S3 a = some (.lst ds') ∧ k.toNat < ds'.length ∧ D.nx ρ (sup S3 a (.lst (ds'.set k.toNat (.int (g n m)))))
theorem ds_augS {o i : Expr} {to ti : TD} {op : Operator} {g : Int → Int → Int} (ho : DE X F0 o to) (hi : DE X F0 i ti) (he : DE X F0 e t) (hp : PIp X op (ipI g))
    (ha : ∀ ov iv new, augStore i ov iv new = (do holding [new, ov, iv] (setItem ov iv new); release [new, ov, iv] []; pure .next) := by intros; rfl) : DS X F0 (.AugAssign (.Subscript o i pos') op e pos) (tdAugS to ti t g) :=
  PS.weak (ps_augS ho hi pget_list he hp set_list ha) fun D σ H ⟨F, S, ρ, D', a, h, p⟩ => EL.go a h fun v1 H1 F1 S1 d1 x1 a1 r1 q1 => EL.go a1 q1 fun v2 H2 F2 S2 d2 x2 a2 r2 ⟨b, ds, k, n, e1, e2, hk, e3, e4, q⟩ => by
    subst e1; subst e2
    obtain ⟨vs, h1, h2⟩ := a2.sr.lst e3
    obtain ⟨w, h3, h4⟩ := h2.get e4
    obtain rfl := h4.int_e
    refine ⟨b, vs, k, _, r1.ref_e, r2.int_e, hk, .of h1, h3, EL.go a2 q fun v3 H3 F3 S3 d3 x3 a3 r3 ⟨m, ds', e5, e6, hl, q⟩ => ?_⟩
    subst e5
    obtain ⟨us, h5, h6⟩ := a3.sr.lst e6
    refine ⟨n, m, rfl, r3.int_e, b, us, k, k.toNat, r1.ref_e, r2.int_e, h5, ?_, ?_⟩
    · unfold ixN
      rw [h6.length, if_pos hk, if_pos (by omega)]
    · exact p.1 _ _ _ _ _ (((x1.trans x2).trans x3).trans (a3.sr.ext_write e6)) (a3.sr.write (o := .lst _) e6 ⟨_, rfl, h6.set (.int_i _) _⟩) a3.env q
end
end DL
namespace DL
open PySem PySem.Spec L2 PyProof.Rows
/-- d calls deep may be gone from here -/
structure Rm (d : Nat) (A : Around) : Prop where
  noh : A.handled = none
  dep : A.depth + d + 40 < recursionLimit
  uni : A.units + 4 * d + 400 < cLine
theorem Rm.mono {i d : Nat} {A : Around} (q : Rm d A) (hle : i ≤ d) : Rm i A := ⟨q.noh, by have z := q.dep; omega, by have z := q.uni; omega⟩
theorem Rm.body {d : Nat} {A : Around} (q : Rm (d + 1) A) (env : Env) : Rm d (A.deeper env) :=
  ⟨q.noh, by have z := q.dep; show A.depth + 1 + d + 40 < _; omega, by have z := q.uni; show A.units + 3 + 4 * d + 400 < _; omega⟩
theorem Rm.made {d : Nat} {A : Around} (q : Rm (d + 1) A) (C : Addr) (us : List Value) (kw : List (Str × Value)) : Rm d (A.under (.builtin "type.__call__" ⟨.ref C :: us, kw⟩)) :=
  ⟨q.noh, by have z := q.dep; rw [make_depth]; omega, by have z := q.uni; rw [make_units]; omega⟩
theorem Rm.room {d k : Nat} {A : Around} (q : Rm d A) (hk : k ≤ 11) : Room k A := ⟨q.noh, by have z := q.dep; omega, by have z := q.uni; omega⟩
/-- where the hand layer's room is wide enough -/
theorem Rm.of {d k : Nat} {A : Around} (q : Room k A) (h1 : d + 35 ≤ 3 * k) (h2 : 4 * d + 200 ≤ 16 * k) : Rm d A := ⟨q.hd, by have z := q.dp; omega, by have z := q.un; omega⟩
/-- a def's promise, with a budget of d calls -/
structure FnD (P : Program) (w : World) (K : PySem.W.Frag) (mg : Str → Option Value) (base : Heap) (d : Nat) (f : Addr) (fd : FuncData) (ps : List Str) (sp : Sp) : Prop where
  many : ∀ us H Q E, sp us H Q E → us.length = ps.length
  goes : ∀ (A : Around) (outer : List Env) (s : Shared) (H : Hp) (args : Args) (ws : List Value) (us : List V) (Q : VK) (E : XK), Rm d A → Env0 P w K mg base A outer s H → BindsTo s fd args (ps.zip ws) → Vals us ws → sp us H Q E →
    codeAny (model P w) A (.call (.ref f) args) (CR (L2.CX P w) outer P w H s Q E) s
section
variable {X : Cx} {d : Nat} {f C : Addr} {fd : FuncData} {ps : List Str} {sp : Sp} {E : XK} {x m : Str} {p pos apos : Pos} {e o : Expr} {es : List Expr} {ta : TE} {t : TA}
theorem spNil {us : List V} {H : Hp} {Q : VK} (h : sp (us ++ []) H Q E) : sp us H Q E := by
  rw [List.append_nil] at h
  exact h
theorem goes_fn {pins : List (Addr × Obj)} {σ : L2.St} {H : Hp} {s : Shared} {Q : VK} {ws : List Value} {us : List V} (G : FnD X.prog X.w X.K X.mg X.base d f fd ps sp) (hr : Rm d X.A) (hb : Binds X.K fd ps []) (hx : Passes (L2.CX X.prog X.w) X E)
    (I : Inv X pins σ H s) (r : Vals us ws) (h : sp us H Q E) : wpAny (model X.prog X.w) X.A (call (.ref f) ws) (EP X pins σ Q) X.xe s := by
  have hl : (ws ++ []).length = ps.length := by rw [List.append_nil, ← r.length]; exact G.many _ _ _ _ h
  have bb := hb s ws I.kIn hl
  rw [List.append_nil] at bb
  refine wpAny_call (codeAny_mono (G.goes X.A X.stack s H ⟨ws, []⟩ ws us Q E hr I.env0 bb r h) fun z s' hq => ?_)
  match z, hq with
  | .error e, hq => exact hx pins σ H s e s' I hq
  | .ok (.ret u), hq => exact I.after hq
theorem pd_call (G : FnD X.prog X.w X.K X.mg X.base d f fd ps sp) (hr : Rm d X.A) (hg : Gl X x) (hm : X.mg x = some (.ref f)) (hk : PySem.W.keepIn X.K (.ref f) = true) (hb : Binds X.K fd ps []) (hx : Passes (L2.CX X.prog X.w) X E)
    (ha : PA X (e :: es) t) (hdb : (x == ("__debug__" : Str)) = false := by decide) (he : starEach (e :: es) X.env = (false, eval e X.env) :: starEach es X.env := by rfl) (hpl : (backTo pos (starEach es X.env)).any (·.1) = false := by rfl) :
    PE X (.Call (.Name x p) (e :: es) [] pos) (tCall sp [] E t) :=
  ⟨fun pins s σ H Q I h => wpAny_Call_Name_kw (ld_glob I hg hm (PySem.W.callWith_K (h₀ := X.base) I.ok.mod.kin hk (thn (ha.run pos pins s σ H _ I h) fun ws s1 ⟨us, H1, I1, r, q⟩ => ⟨I1.kIn, goes_fn G hr hb hx I1 r (spNil q)⟩) he hpl) hdb)⟩
theorem pd_call0 (G : FnD X.prog X.w X.K X.mg X.base d f fd ps sp) (hr : Rm d X.A) (hg : Gl X x) (hm : X.mg x = some (.ref f)) (hk : PySem.W.keepIn X.K (.ref f) = true) (hb : Binds X.K fd ps []) (hx : Passes (L2.CX X.prog X.w) X E)
    (hdb : (x == ("__debug__" : Str)) = false := by decide) : PE X (.Call (.Name x p) [] [] pos) (tCall sp [] E tNil) :=
  ⟨fun pins s σ H Q I h => wpAny_Call_Name_kw (ld_glob I hg hm (PySem.W.callWith_K0 I.kIn hk (goes_fn (ws := []) G hr hb hx I .nil h)) hdb)⟩
theorem pd_callL {i : Nat} (G : FnD X.prog X.w X.K X.mg X.base d f fd ps sp) (hr : Rm d X.A) (hN : X.N[i]? = some x) (hv : Vis X.env.scope x) (hk : PySem.W.keepIn X.K (.ref f) = true) (hb : Binds X.K fd ps []) (hx : Passes (L2.CX X.prog X.w) X E) (ha : PA X (e :: es) t)
    (hdb : (x == ("__debug__" : Str)) = false := by decide) (hcd : (x == ("__classdict__" : Str)) = false := by decide)
    (he : starEach (e :: es) X.env = (false, eval e X.env) :: starEach es X.env := by rfl) (hpl : (backTo pos (starEach es X.env)).any (·.1) = false := by rfl) : PE X (.Call (.Name x p) (e :: es) [] pos) (tCallL i f sp [] E t) := by
  refine ⟨fun pins s σ H Q I ⟨h0, h⟩ => wpAny_Call_Name_kw (thn ((pe_var (pos := p) hN hv hdb hcd).run pins s σ H (fun v H1 => v = .ref f ∧ H1 = H) I ⟨.ref f, h0, rfl, rfl⟩) fun u s1 ⟨v, H1, I1, r1, e1, e2⟩ => ?_)⟩
  subst e1; subst e2
  obtain rfl : u = Value.ref f := r1
  refine PySem.W.callWith_K (h₀ := X.base) I.ok.mod.kin hk (thn (ha.run pos pins s1 σ _ _ I1 h) fun ws s2 ⟨us, H2, I2, r, q⟩ => ⟨I2.kIn, ?_⟩) he hpl
  exact goes_fn G hr hb hx I2 r (spNil q)
theorem pd_meth {pl : Sem Bool} (he : PE X o ta) (c : Cls X.K C) (hm : Meth X.K C m f) (G : FnD X.prog X.w X.K X.mg X.base d f fd ps sp) (hr : Rm d X.A) (hb : Binds X.K fd ps []) (hx : Passes (L2.CX X.prog X.w) X E) (ha : PA X (e :: es) t)
    (hst : starEach (e :: es) X.env = (false, eval e X.env) :: starEach es X.env := by rfl) (hpl : (backTo pos (starEach es X.env)).any (·.1) = false := by rfl)
    (ht : eval (.Call (.Attribute o m apos) (e :: es) [] pos) X.env = (do
      let ov ← eval o X.env
      standAt apos.atName
      let (f, first) ← holding [ov] (getMethod ov m pl)
      callWith pos f first (backTo pos (starEach (e :: es) X.env)) (backToKw pos (keywordEach [] X.env))) := by rfl) :
    PE X (.Call (.Attribute o m apos) (e :: es) [] pos) (tMeth C m sp [] E ta t) := by
  refine ⟨fun pins s σ H Q I h => PySem.W.methodCall_KW (pl := pl) (thn (he.run pins s σ H _ I h) fun u s1 ⟨y, H1, I1, ry, a, dx, fs, e1, e2, l, q⟩ => ?_) ht⟩
  subst e1
  obtain rfl : u = Value.ref a := ry
  refine getmeth_ok I1 e2 c hm l (PySem.W.callWith_K (first := [.ref a]) (h₀ := X.base) I.ok.mod.kin hm.kp (thn (ha.run pos pins s1 σ H1 _ I1 q) fun ws s2 ⟨us, H2, I2, r, q2⟩ => ⟨I2.kIn, ?_⟩) hst hpl)
  exact goes_fn (ws := .ref a :: ws) (us := .ref a :: us) G hr hb hx I2 (.cons rfl r) (spNil (us := .ref a :: us) q2)
theorem pd_meth0 {pl : Sem Bool} (he : PE X o ta) (c : Cls X.K C) (hm : Meth X.K C m f) (G : FnD X.prog X.w X.K X.mg X.base d f fd ps sp) (hr : Rm d X.A) (hb : Binds X.K fd ps []) (hx : Passes (L2.CX X.prog X.w) X E)
    (ht : eval (.Call (.Attribute o m apos) [] [] pos) X.env = (do
      let ov ← eval o X.env
      standAt apos.atName
      let (f, first) ← holding [ov] (getMethod ov m pl)
      callWith pos f first (backTo pos (starEach [] X.env)) (backToKw pos (keywordEach [] X.env))) := by rfl) :
    PE X (.Call (.Attribute o m apos) [] [] pos) (tMeth C m sp [] E ta tNil) := by
  refine ⟨fun pins s σ H Q I h => PySem.W.methodCall_KW (pl := pl) (thn (he.run pins s σ H _ I h) fun u s1 ⟨y, H1, I1, ry, a, dx, fs, e1, e2, l, q⟩ => ?_) ht⟩
  subst e1
  obtain rfl : u = Value.ref a := ry
  exact getmeth_ok I1 e2 c hm l (PySem.W.callWith_K0 (first := [.ref a]) I1.kIn hm.kp (goes_fn (ws := [.ref a]) (us := [.ref a]) G hr hb hx I1 (.cons rfl .nil) q))
theorem goes_make {pins : List (Addr × Obj)} {σ : L2.St} {H : Hp} {s : Shared} {Q : VK} {ws : List Value} {us : List V} (M : Mk X.K C f) (G : FnD X.prog X.w X.K X.mg X.base d f fd ps sp) (hr : Rm (d + 1) X.A) (hb : Binds X.K fd ps [])
    (hx : Passes (L2.CX X.prog X.w) X E) (I : Inv X pins σ H s) (r : Vals us ws)
    (h : ∀ y dy, H y = none → H dy = none → dy ≠ y → sp (.ref y :: us) (upd (upd H dy (.own y)) y (.ins C dy [])) (fun v H2 => v = .non ∧ Q (.ref y) H2) E) :
    wpAny (model X.prog X.w) X.A (call (.ref C) ws) (EP X pins σ Q) X.xe s := by
  have hq := h (s.heap.objs.size + 1) s.heap.objs.size (I.hok.fresh (Nat.le_succ _)) (I.hok.fresh (Nat.le_refl _)) (Nat.ne_of_lt (Nat.lt_succ_self _))
  have J := Inv.made (C := C) I
  have r2 : Vals (V.ref (s.heap.objs.size + 1) :: us) (Value.ref (s.heap.objs.size + 1) :: ws) := .cons rfl r
  have bb := hb _ (Value.ref (s.heap.objs.size + 1) :: ws) J.kIn (by rw [List.append_nil, ← r2.length]; exact G.many _ _ _ _ hq)
  rw [List.append_nil] at bb
  refine wpAny_call (make_map (f := f) I.kIn M.makes M.init (beq_iff_eq.mp M.fn) (codeAny_mono (G.goes _ X.stack _ _ ⟨Value.ref (s.heap.objs.size + 1) :: ws, []⟩ _ _ _ E (hr.made C ws []) (J.env0.make C ws []) bb r2 hq) fun z s' hz => ?_))
  match z, hz with
  | .error e, hz => exact hx pins σ _ _ e s' J hz
  | .ok (.ret u), hz =>
    obtain ⟨v, H', J2, rv, ev, q3⟩ := J.after hz
    subst ev
    exact ⟨rv, ⟨V.ref (s.heap.objs.size + 1), H', J2, rfl, q3⟩⟩
theorem pd_make (M : Mk X.K C f) (G : FnD X.prog X.w X.K X.mg X.base d f fd ps sp) (hr : Rm (d + 1) X.A) (hg : Gl X x) (hm : X.mg x = some (.ref C)) (hb : Binds X.K fd ps []) (hx : Passes (L2.CX X.prog X.w) X E)
    (ha : PA X (e :: es) t) (hdb : (x == ("__debug__" : Str)) = false := by decide) (he : starEach (e :: es) X.env = (false, eval e X.env) :: starEach es X.env := by rfl) (hpl : (backTo pos (starEach es X.env)).any (·.1) = false := by rfl) :
    PE X (.Call (.Name x p) (e :: es) [] pos) (tMake C sp [] E t) :=
  ⟨fun pins s σ H Q I h => wpAny_Call_Name_kw (ld_glob I hg hm (PySem.W.callWith_K (h₀ := X.base) I.ok.mod.kin M.kp (thn (ha.run pos pins s σ H _ I h) fun ws s1 ⟨us, H1, I1, r, q⟩ => ⟨I1.kIn, goes_make M G hr hb hx I1 r (fun y dy a b c => spNil (us := .ref y :: us) (q y dy a b c))⟩) he hpl) hdb)⟩
end
section
variable {P : Program} {w : World} {K : PySem.W.Frag} {mg : Str → Option Value} {base : Heap}
/-- a def by its body, with a budget of depth -/
theorem fnd_of {x qual : Str} {st : Stmt} {f : Addr} {fd : FuncData} {N ps : List Str} {d : Nat} {sp : Sp} (Fn : Fun K x qual st f fd) (Sc : FnScope N ps (defScope st)) (many : ∀ us H Q E, sp us H Q E → us.length = ps.length)
    (hbody : ∀ (cdv : Value) (A : Around) (outer : List Env) (s : Shared) (H : Hp) (us : List V) (Q : VK) (E : XK), Rm d (A.deeper (envOfC qual (defScope st) s.heap.objs.size f cdv)) → sp us H Q E →
      ∃ t, PSs (cxOf (L2.CX P w) P w K mg base N qual (defScope st) f cdv A outer s H E) (defBody st) t ∧ t { nx := fun _ H' => Q .non H', rt := Q } (start N us) H) :
    FnD P w K mg base (d + 1) f fd ps sp := by
  obtain ⟨oc, od, kV, doc, pm, an, cdv, ct, osl, rfl, lk, hcd⟩ := Fn.ex
  refine ⟨many, fun A outer s H args ws us Q E hr e0 hb r hsp => ?_⟩
  have KX : K.In s.heap := e0.mod.kin.keeps fun b o z => (e0.bs b o z).1
  have hkind : ∀ y ∈ ps.zip ws, (defScope st).names.lookup y.1 = some .local ∨ ((defScope st).names.lookup y.1 = some .cell ∧ ((cellsFrom (s.heap.objs.size + 1) (defScope st).names []).lookup y.1).isSome = true) := fun ⟨n, v⟩ hy =>
    (Sc.par n (List.of_mem_zip hy).1).imp id fun q => ⟨q, PySem.W.cellsFrom_some _ _ _ (.inl q)⟩
  refine codeAny_call_function (by have z := hr.dep; omega) (KX _ _ lk) rfl Sc.co Sc.gen rfl (PySem.W.codeRec_of KX hcd) (hb _ _ _ _ (wpAny_newFunctionEnv_cells Sc.kind hkind fun env he s1 y => ?_))
  subst he
  obtain ⟨t, ht, hq⟩ := hbody cdv A outer s H us Q E (hr.body _) hsp
  have I : Inv (cxOf (L2.CX P w) P w K mg base N qual (defScope st) f cdv A outer s H E) [] (start N us) H s1 := inv_start Sc hr.noh e0 (many _ _ _ _ hsp) r y
  refine ⟨(e0.mod.nolimit.keeps fun b o z => (e0.bs b o z).1).keeps y.toInCall.keep, codeAny_func (wpAny_mono (ht.run [] s1 (start N us) H _ I hq) (fun fl s' hs => ?_) fun e s' hs => hs)⟩
  have fin : ∀ {σ' : L2.St} {H' : Hp} {v : V} {u : Value}, Inv (cxOf (L2.CX P w) P w K mg base N qual (defScope st) f cdv A outer s H E) [] σ' H' s' → RelV v u → Q v H' → CE outer P w H s Q u s' :=
    fun {σ' H' v u} J rv q => ⟨v, H', J.os, J.bare, J.base, J.hok, rv, q⟩
  match fl, hs with
  | .ret u, ⟨v, σ', H', J, rv, q⟩ => exact fin J rv q
  | .next, ⟨σ', H', J, q⟩ => exact fin (v := V.non) (u := Value.none) J rfl q
  | .brk, ⟨_, _, _, q⟩ => exact q.elim
  | .cont, ⟨_, _, _, q⟩ => exact q.elim
end
end DL
namespace DL
open PySem PySem.Spec L2
def kD : DK → D
  | .inl i => .int i
  | .inr t => .str t
def valD : List (DK × D) → DK → Option D
  | [], _ => none
  | (k', d) :: r, k => if k' = k then some d else valD r k
def hasD : List (DK × D) → DK → Bool
  | [], _ => false
  | (k', _) :: r, k => if k' = k then true else hasD r k
/-- in its place -/
def repD : List (DK × D) → DK → D → List (DK × D)
  | [], _, _ => []
  | (k', d') :: r, k, d => (k', if k' = k then d else d') :: repD r k d
def putD (kvs : List (DK × D)) (k : DK) (d : D) : List (DK × D) := if hasD kvs k = true then repD kvs k d else kvs ++ [(k, d)]
def mergeD (kvs more : List (DK × D)) : List (DK × D) := more.foldl (fun acc kv => putD acc kv.1 kv.2) kvs
abbrev kmap (kvs : List (DK × D)) : List (Key × D) := kvs.map fun p => (kk p.1, p.2)
section
variable {K : PySem.W.Frag} {F : Hp}
theorem kV_rel (k : DK) : RelD K F (kD k) (kV (kk k)) := by
  cases k with
  | inl i => exact .int_i i
  | inr t => exact .str_i t
theorem kD_rel {k : DK} {v : V} (r : RelD K F (kD k) v) : v = kV (kk k) := by
  cases k with
  | inl i => exact r.int_e
  | inr t => exact r.str_e
theorem valD_rel {k : DK} {d : D} : ∀ {kvs : List (DK × D)} {ws : List (Key × V)}, RelF K F (kmap kvs) ws → valD kvs k = some d → ∃ v, valV ws (kk k) = some v ∧ RelD K F d v
  | [], _, _, e => by cases e
  | (k', d') :: r, _, h, e => by
    obtain ⟨w, ws, rfl, h1, h2⟩ := h
    unfold valD at e
    by_cases q : k' = k
    · rw [if_pos q] at e; cases e
      exact ⟨w, by rw [q]; exact valV_pos rfl, h1⟩
    · rw [if_neg q] at e
      obtain ⟨v, h3, h4⟩ := valD_rel h2 e
      refine ⟨v, ?_, h4⟩
      unfold valV at h3 ⊢
      rw [List.find?_cons_of_neg]
      · exact h3
      · simp; exact fun z => q (kk_inj z)
theorem hasD_rel {k : DK} : ∀ {kvs : List (DK × D)} {ws : List (Key × V)}, RelF K F (kmap kvs) ws → (ws.any fun kv => decide (kv.1 = kk k)) = hasD kvs k
  | [], _, h => by rw [show _ = _ from h]; rfl
  | (k', d') :: r, _, h => by
    obtain ⟨w, ws, rfl, h1, h2⟩ := h
    unfold hasD
    rw [List.any_cons, hasD_rel h2]
    by_cases q : k' = k
    · rw [if_pos q, q]; simp
    · rw [if_neg q]
      have : decide ((kk k', w).1 = kk k) = false := decide_eq_false fun z => q (kk_inj z)
      rw [this]; rfl
theorem repD_rel {k : DK} {d : D} {v : V} (rd : RelD K F d v) : ∀ {kvs : List (DK × D)} {ws : List (Key × V)}, RelF K F (kmap kvs) ws → RelF K F (kmap (repD kvs k d)) (ws.map fun kv => if kv.1 = kk k then (kv.1, v) else kv)
  | [], _, h => by rw [show _ = _ from h]; exact rfl
  | (k', d') :: r, _, h => by
    obtain ⟨w, ws, rfl, h1, h2⟩ := h
    unfold repD
    by_cases q : k' = k
    · subst q
      refine ⟨v, _, ?_, by simpa using rd, repD_rel rd h2⟩
      simp
    · have n : ¬ kk k' = kk k := fun z => q (kk_inj z)
      refine ⟨w, _, ?_, by rw [if_neg q]; exact h1, repD_rel rd h2⟩
      simp [n]
theorem RelF.app {κ : Type} : ∀ {fs gs : List (κ × D)} {ws us : List (κ × V)}, RelF K F fs ws → RelF K F gs us → RelF K F (fs ++ gs) (ws ++ us)
  | [], _, _, _, h, g => by rw [show _ = _ from h]; exact g
  | (k, d) :: fs, _, _, _, h, g => by
    obtain ⟨v, r, rfl, h2, h3⟩ := h
    exact ⟨v, _, rfl, h2, RelF.app h3 g⟩
theorem putD_rel {k : DK} {d : D} {v : V} {kvs : List (DK × D)} {ws : List (Key × V)} (rd : RelD K F d v) (h : RelF K F (kmap kvs) ws) : RelF K F (kmap (putD kvs k d)) (putK ws (kk k) v) := by
  unfold putD putK
  rw [hasD_rel h]
  split
  · exact repD_rel rd h
  · unfold kmap
    rw [List.map_append]
    exact RelF.app h ⟨v, [], rfl, rd, rfl⟩
theorem mergeD_rel : ∀ {more : List (DK × D)} {ms : List (Key × V)} {kvs : List (DK × D)} {ws : List (Key × V)}, RelF K F (kmap more) ms → RelF K F (kmap kvs) ws → RelF K F (kmap (mergeD kvs more)) (mergeK ws ms)
  | [], _, kvs, ws, h, g => by rw [show _ = _ from h]; exact g
  | (k, d) :: r, _, kvs, ws, h, g => by
    obtain ⟨v, ms, rfl, h1, h2⟩ := h
    show RelF K F (kmap (mergeD (putD kvs k d) r)) (mergeK (putK ws (kk k) v) ms)
    exact mergeD_rel (more := r) (ms := ms) h2 (putD_rel h1 g)
/-- what was laid ahead takes its content -/
theorem SR.adoptS {S2 : Store} {H2 : Hp} {p : Addr} {o : DO} {ho : HO} (sr : SR K F S2 H2) (hF : F p = none) (r : RelO K F o ho) : SR K F (sup S2 p o) (upd H2 p ho) where
  fro := fun b u q => by
    rw [upd_ne]; exact sr.fro b u q
    intro z; rw [z, hF] at q; cases q
  obj := fun b u q => by
    by_cases z : b = p
    · subst z; rw [sup_same] at q; cases q
      exact ⟨hF, ho, upd_same, r⟩
    · rw [sup_ne z] at q; rw [upd_ne z]; exact sr.obj b u q
theorem SR.adoptF {S2 : Store} {H2 : Hp} {p : Addr} {ho : HO} (sr : SR K F S2 H2) (hF : F p = none) (hS : S2 p = none) : SR K (upd F p ho) S2 (upd H2 p ho) ∧ Same F (upd F p ho) := by
  have sm : Same F (upd F p ho) := fun b u q => by
    rw [upd_ne]; exact q
    intro z; rw [z, hF] at q; cases q
  refine ⟨⟨fun b u q => ?_, fun b u q => ?_⟩, sm⟩
  · by_cases z : b = p
    · subst z; rw [upd_same] at q ⊢; exact q
    · rw [upd_ne z] at q ⊢; exact sr.fro b u q
  · obtain ⟨h1, ho', h2, h3⟩ := sr.obj b u q
    have z : b ≠ p := by intro z; rw [z, hS] at q; cases q
    rw [upd_ne z, upd_ne z]
    exact ⟨h1, ho', h2, h3.mono sm⟩
theorem Ext.laid_none {F2 : Hp} {S S2 : Store} {H H2 : Hp} {p : Addr} {o1 : HO} (sr : SR K F S H) (x : Ext F S (upd H p o1) F2 S2 H2) (hp : H p = none) : F2 p = none ∧ S2 p = none ∧ H2 p = some o1 := by
  have hS := sr.snone hp
  have hF := sr.fnone hp
  refine ⟨?_, ?_, x.off p o1 upd_same hS⟩
  · cases q : F2 p with
    | none => rfl
    | some u =>
      rcases x.newF p (by rw [q]; simp) hF with z | z
      · exact absurd hS z
      · rw [upd_same] at z; cases z
  · cases q : S2 p with
    | none => rfl
    | some u =>
      rcases x.newS p (by rw [q]; simp) with z | z
      · exact absurd hS z
      · rw [upd_same] at z; cases z
theorem Ext.adoptS {F2 : Hp} {S S2 : Store} {H H2 : Hp} {p : Addr} {o1 ho : HO} {o : DO} (x : Ext F S (upd H p o1) F2 S2 H2) (hp : H p = none) : Ext F S H F2 (sup S2 p o) (upd H2 p ho) where
  same := x.same
  off := fun b u q n => by
    have z : b ≠ p := by intro z; rw [z, hp] at q; cases q
    rw [upd_ne z]
    exact x.off b u (by rw [upd_ne z]; exact q) n
  newF := fun b q g => by
    rcases x.newF b q g with z | z
    · exact .inl z
    · by_cases e : b = p
      · subst e; exact .inr hp
      · rw [upd_ne e] at z; exact .inr z
  newS := fun b q => by
    by_cases e : b = p
    · subst e; exact .inr hp
    · rw [sup_ne e] at q
      rcases x.newS b q with z | z
      · exact .inl z
      · rw [upd_ne e] at z; exact .inr z
theorem Ext.adoptF {F2 : Hp} {S S2 : Store} {H H2 : Hp} {p : Addr} {o1 ho : HO} (x : Ext F S (upd H p o1) F2 S2 H2) (hp : H p = none) (hF2 : F2 p = none) : Ext F S H (upd F2 p ho) S2 (upd H2 p ho) where
  same := fun b u q => by
    have h := x.same b u q
    rw [upd_ne]; exact h
    intro z; rw [z, hF2] at h; cases h
  off := fun b u q n => by
    have z : b ≠ p := by intro z; rw [z, hp] at q; cases q
    rw [upd_ne z]
    exact x.off b u (by rw [upd_ne z]; exact q) n
  newF := fun b q g => by
    by_cases e : b = p
    · subst e; exact .inr hp
    · rw [upd_ne e] at q
      rcases x.newF b q g with z | z
      · exact .inl z
      · rw [upd_ne e] at z; exact .inr z
  newS := fun b q => by
    rcases x.newS b q with z | z
    · exact .inl z
    · by_cases e : b = p
      · subst e; exact .inr hp
      · rw [upd_ne e] at z; exact .inr z
/-- laid empty, untracked over data -/
theorem SR.laid {S : Store} {H : Hp} {p : Addr} {o1 : HO} (sr : SR K F S H) (hp : H p = none) : SR K F S (upd H p o1) where
  fro := fun b u q => by
    rw [upd_ne]; exact sr.fro b u q
    intro z; rw [z, sr.fnone hp] at q; cases q
  obj := fun b u q => by
    obtain ⟨h1, ho', h2, h3⟩ := sr.obj b u q
    have z : b ≠ p := by intro z; rw [z, hp] at h2; cases h2
    rw [upd_ne z]; exact ⟨h1, ho', h2, h3⟩
end
section
variable {X : Cx} {F0 : Ent} {e a b c o i lo hi : Expr} {es : List Expr} {t ta tb tv to ti : TD} {tr : TDs} {pos pos' p2 : Pos}
def tdGet (to ti : TD) : TD := fun ρ S Q => to ρ S fun x S1 => ti ρ S1 fun y S2 => ∃ a kvs k d, x = .ref a ∧ S2 a = some (.dic kvs) ∧ y = kD k ∧ valD kvs k = some d ∧ Q d S2
theorem de_get (hu : X.A.units + 1 < cLine) (ho : DE X F0 o to) (hi : DE X F0 i ti) (hs : NoSl i := by exact fun _ _ => rfl) : DE X F0 (.Subscript o i pos) (tdGet to ti) :=
  PE.weak (pe_dget hu ho hi hs) fun σ H Q ⟨F, S, ρ, Q', at0, h, p⟩ => EL.go at0 h fun v1 H1 F1 S1 d1 x1 a1 r1 q1 => EL.go a1 q1 fun v2 H2 F2 S2 d2 x2 a2 r2 ⟨b, kvs, k, d, e1, e2, e3, e4, q⟩ => by
    subst e1; subst e3
    obtain ⟨ws, h1, h2⟩ := a2.sr.dic e2
    obtain ⟨v, h3, h4⟩ := valD_rel h2 e4
    refine ⟨b, v, r1.ref_e, ?_, p.of (x1.trans x2) a2.sr h4 q⟩
    rw [kD_rel r2, ← h3]
    exact DGet.k h1
def tdDPut (to ti te : TD) : TDS := fun D ρ S => te ρ S fun v S1 => to ρ S1 fun x S2 => ti ρ S2 fun y S3 => ∃ a kvs k, x = .ref a ∧ S3 a = some (.dic kvs) ∧ y = kD k ∧ kvs.length < sizeLine ∧ D.nx ρ (sup S3 a (.dic (putD kvs k v)))
theorem ds_dput (hu : X.A.units + 1 < cLine) (ho : DE X F0 o to) (hi : DE X F0 i ti) (he : DE X F0 e t) (hs : swapsWith e (some (.Subscript o i pos')) pos.line X.env = pure false := by rfl) : DS X F0 (.Assign [.Subscript o i pos'] e pos) (tdDPut to ti t) :=
  PS.weak (ps_dput hu ho hi he hs) fun D σ H ⟨F, S, ρ, D', at0, h, p⟩ => EL.go at0 h fun v0 H0 F0 S0 d0 x0 a0 r0 q0 => EL.go a0 q0 fun v1 H1 F1 S1 d1 x1 a1 r1 q1 => EL.go a1 q1 fun v2 H2 F2 S2 d2 x2 a2 r2 ⟨b, kvs, k, e1, e2, e3, hl, q⟩ => by
    subst e1; subst e3
    obtain ⟨ws, h1, h2⟩ := a2.sr.dic e2
    have hl' : ws.length < sizeLine := by rw [h2.length, List.length_map]; exact hl
    refine ⟨b, _, r1.ref_e, ?_, p.1 _ _ _ _ _ (((x0.trans x1).trans x2).trans (a2.sr.ext_write e2)) (a2.sr.write (o := .dic _) e2 ⟨_, rfl, putD_rel (RelD.mono x2.same _ _ (RelD.mono x1.same _ _ r0)) h2⟩) a2.env q⟩
    rw [kD_rel r2]
    exact DPut.k h1 hl'
def tdDAug (to ti te : TD) (g : Int → Int → Int) : TDS := fun D ρ S => to ρ S fun x S1 => ti ρ S1 fun y S2 => ∃ a kvs k n, x = .ref a ∧ S2 a = some (.dic kvs) ∧ y = kD k ∧ valD kvs k = some (.int n) ∧
  te ρ S2 fun z S3 => ∃ m kvs', z = .int m ∧ S3 a = some (.dic kvs') ∧ kvs'.length < sizeLine ∧ D.nx ρ (sup S3 a (.dic (putD kvs' k (.int (g n m)))))
theorem ds_daug {op : Operator} {g : Int → Int → Int} {rd : V → V → Hp → VK → Prop} (hu : X.A.units + 1 < cLine) (ho : DE X F0 o to) (hi : DE X F0 i ti) (he : DE X F0 e t) (hop : InOp X op rd) (hrd : ∀ i j H (Q : VK), Q (.int (g i j)) H → rd (.int i) (.int j) H Q)
    (ha : ∀ ov iv new, augStore i ov iv new = (do holding [new, ov, iv] (setItem ov iv new); release [new, ov, iv] []; pure .next) := by intros; rfl) : DS X F0 (.AugAssign (.Subscript o i pos') op e pos) (tdDAug to ti t g) :=
  PS.weak (ps_daug hu ho hi he hop ha) fun D σ H ⟨F, S, ρ, D', at0, h, p⟩ => EL.go at0 h fun v1 H1 F1 S1 d1 x1 a1 r1 q1 => EL.go a1 q1 fun v2 H2 F2 S2 d2 x2 a2 r2 ⟨b, kvs, k, n, e1, e2, e3, e4, q⟩ => by
    subst e1; subst e3
    obtain ⟨ws, h1, h2⟩ := a2.sr.dic e2
    obtain ⟨v, h3, h4⟩ := valD_rel h2 e4
    obtain rfl := h4.int_e
    refine ⟨b, V.int n, r1.ref_e, ?_, EL.go a2 q fun v3 H3 F3 S3 d3 x3 a3 r3 ⟨m, kvs', e5, e6, hl, q⟩ => ?_⟩
    · rw [kD_rel r2, ← h3]; exact DGet.k h1
    · subst e5
      obtain rfl := r3.int_e
      obtain ⟨us, h5, h6⟩ := a3.sr.dic e6
      refine hrd _ _ _ _ ⟨upd H3 b (.dK (putK us (kk k) (.int (g n m)))), ?_, p.1 _ _ _ _ _ (((x1.trans x2).trans x3).trans (a3.sr.ext_write e6)) (a3.sr.write (o := .dic _) e6 ⟨_, rfl, putD_rel (.int_i _) h6⟩) a3.env q⟩
      rw [kD_rel r2]
      exact DPut.k h5 (by rw [h6.length, List.length_map]; exact hl)
/-- a written dict -/
def tdPairs : List (TD × TD) → Rho → Store → (List (D × D) → Store → Prop) → Prop
  | [], _, S, Q => Q [] S
  | (tk, tv) :: r, ρ, S, Q => tk ρ S fun x S1 => tv ρ S1 fun y S2 => tdPairs r ρ S2 fun ps S3 => Q ((x, y) :: ps) S3
/-- the pairs as keys and values -/
def keysD : List (D × D) → Option (List (DK × D))
  | [] => some []
  | (.int i, d) :: r => (keysD r).map ((.inl i, d) :: ·)
  | (.str t, d) :: r => (keysD r).map ((.inr t, d) :: ·)
  | _ => none
def tdDict (trs : List (TD × TD)) : TD := fun ρ S Q => tdPairs trs ρ S fun ps S2 => ∃ kvs, keysD ps = some kvs ∧ kvs.length ≤ 15 ∧ ∀ p, S2 p = none → Q (.ref p) (sup S2 p (.dic (mergeD [] kvs)))
inductive DPs (X : Cx) (F0 : Ent) (pos : Pos) : List (Option Expr) → List Expr → List (TD × TD) → Prop
  | nil : DPs X F0 pos [] [] []
  | cons {k v : Expr} {ks : List (Option Expr)} {vs : List Expr} {tk tv : TD} {trs : List (TD × TD)} : DE X F0 k tk → DE X F0 v tv → DPs X F0 pos ks vs trs → DPs X F0 pos (some k :: ks) (v :: vs) ((tk, tv) :: trs)
def RelPs (K : PySem.W.Frag) (F : Hp) : List (D × D) → List (V × V) → Prop
  | [], ws => ws = []
  | (x, y) :: r, ws => ∃ v w q, ws = (v, w) :: q ∧ RelD K F x v ∧ RelD K F y w ∧ RelPs K F r q
theorem keysD_rel {K : PySem.W.Frag} {F : Hp} : ∀ {ps : List (D × D)} {ws : List (V × V)} {kvs : List (DK × D)}, RelPs K F ps ws → keysD ps = some kvs → ∃ us : List (Key × V), ws = us.map (fun kv => (kV kv.1, kv.2)) ∧ RelF K F (kmap kvs) us
  | [], _, kvs, h, e => by cases e; rw [show _ = _ from h]; exact ⟨[], rfl, rfl⟩
  | (x, y) :: r, _, kvs, h, e => by
    obtain ⟨v, w, q, rfl, h1, h2, h3⟩ := h
    unfold keysD at e
    split at e <;> first
      | (rename_i heq; cases heq; done)
      | (cases e; done)
      | (rename_i heq
         obtain ⟨⟨rfl, rfl⟩, rfl⟩ : (_ ∧ _) ∧ _ := by simpa [Prod.ext_iff] using heq
         cases z : keysD _ with
         | none => rw [z] at e; cases e
         | some ms =>
           rw [z] at e; cases e
           obtain ⟨us, k1, k2⟩ := keysD_rel h3 z
           first
            | (obtain rfl := h1.int_e; exact ⟨(.inl _, w) :: us, by rw [k1]; rfl, w, us, rfl, h2, k2⟩)
            | (obtain rfl := h1.str_e; exact ⟨(.inr _, w) :: us, by rw [k1]; rfl, w, us, rfl, h2, k2⟩))
theorem DPs.pps {X : Cx} {F0 : Ent} {pos : Pos} {ks : List (Option Expr)} {vs : List Expr} {trs : List (TD × TD)} (h : DPs X F0 pos ks vs trs) : PPs X pos ks vs (trs.map fun p => (EL X.K F0 p.1, EL X.K F0 p.2)) := by
  induction h with
  | nil => exact pps_nil
  | cons h1 h2 _ ih => exact pps_cons h1 h2 ih
theorem pairs_go {K : PySem.W.Frag} {F0 : Ent} : ∀ {trs : List (TD × TD)} {F : Hp} {S : Store} {H : Hp} {ρ : Rho} {σ : L2.St} {R : List (V × V) → Hp → Prop} {Q1 : List (D × D) → Store → Prop}, At K F0 F S H ρ σ → tdPairs trs ρ S Q1 →
    (∀ ws H1 F1 S1 ps, Ext F S H F1 S1 H1 → At K F0 F1 S1 H1 ρ σ → RelPs K F1 ps ws → Q1 ps S1 → R ws H1) → tPairs (trs.map fun p => (EL K F0 p.1, EL K F0 p.2)) σ H R
  | [], F, S, H, ρ, σ, R, Q1, a, h, n => n [] H F S [] (Ext.refl _ _ _) a rfl h
  | (tk, tv) :: r, F, S, H, ρ, σ, R, Q1, a, h, n => by
    refine EL.go a h fun v1 H1 F1 S1 d1 x1 a1 r1 q1 => EL.go a1 q1 fun v2 H2 F2 S2 d2 x2 a2 r2 q2 => ?_
    refine pairs_go a2 q2 fun ws H3 F3 S3 ps x3 a3 r3 q3 => ?_
    exact n _ H3 F3 S3 ((d1, d2) :: ps) ((x1.trans x2).trans x3) a3 ⟨v1, v2, ws, rfl, RelD.mono x3.same _ _ (RelD.mono x2.same _ _ r1), RelD.mono x3.same _ _ r2, r3⟩ q3
theorem de_dict {keys : List (Option Expr)} {values : List Expr} {trs : List (TD × TD)} (h : DPs X F0 pos keys values trs) (hall : keys.all (·.isSome) = true := by rfl) (hl : keys.length = values.length := by rfl) (h0 : keys ≠ [] := by exact fun z => nomatch z) (h15 : keys.length ≤ 15 := by decide) : DE X F0 (.Dict keys values pos) (tdDict trs) :=
  PE.weak (pe_disp h.pps hall hl h0 h15) fun σ H Q ⟨F, S, ρ, Q', a, h, p⟩ pp hp => by
    have al : At X.K F0 F S (upd H pp (.dK [])) ρ σ := ⟨a.f0.trans (Ext.laid hp), a.sr.laid hp, a.env⟩
    refine pairs_go al h fun ws H1 F1 S1 ps x1 a1 r1 ⟨kvs, e1, e2, q⟩ => ?_
    obtain ⟨nF, nS, hH⟩ := x1.laid_none a.sr hp
    obtain ⟨us, k1, k2⟩ := keysD_rel r1 e1
    refine ⟨hH, us, k1, by rw [k2.length, List.length_map]; exact e2, ?_⟩
    exact p.of (x1.adoptS hp) (a1.sr.adoptS (o := .dic (mergeD [] kvs)) nF ⟨_, rfl, mergeD_rel k2 rfl⟩) (.ref_i _) (q pp nS)
structure Exn where
  C : Addr
  fs : List (Str × D)
def ExnRel (K : PySem.W.Frag) (F : Hp) (x : Exn) (cls : Value) (od : Option Addr) (H : Hp) : Prop :=
  cls = .ref x.C ∧ ((od = none ∧ x.fs = []) ∨ ∃ d ws, od = some d ∧ H d = some (.xd ws) ∧ RelF K F x.fs ws)
abbrev XD := Exn → Store → Prop
/-- what a def does, told over data -/
abbrev M := List D → Store → (D → Store → Prop) → XD → Prop
def EPost (K : PySem.W.Frag) (F : Hp) (S : Store) (H : Hp) (E' : XD) (E : XK) : Prop :=
  ∀ F' S' H' x cls od, Ext F S H F' S' H' → SR K F' S' H' → ExnRel K F' x cls od H' → E' x S' → E cls od H'
def spM (K : PySem.W.Frag) (m : M) (n : Nat) : Sp := fun vs H Q E => ∃ F S ds Q' E', SR K F S H ∧ RelDs K F ds vs ∧ ds.length = n ∧ m ds S Q' E' ∧ Post K F S H Q' Q ∧ EPost K F S H E' E
def DF (P : Program) (w : World) (K : PySem.W.Frag) (mg : Str → Option Value) (base : Heap) (k : Nat) (f : Addr) (fd : FuncData) (ps : List Str) (m : M) : Prop := FnD P w K mg base k f fd ps (spM K m ps.length)
theorem DF.mono {P : Program} {w : World} {K : PySem.W.Frag} {mg : Str → Option Value} {base : Heap} {j k : Nat} {f : Addr} {fd : FuncData} {ps : List Str} {m : M} (F : DF P w K mg base j f fd ps m) (h : j ≤ k) : DF P w K mg base k f fd ps m := ⟨F.many, fun A outer s H args ws us Q E hr => F.goes A outer s H args ws us Q E (hr.mono h)⟩
/-- another promise that is kept by this one -/
theorem DF.imp {P : Program} {w : World} {K : PySem.W.Frag} {mg : Str → Option Value} {base : Heap} {k : Nat} {f : Addr} {fd : FuncData} {ps : List Str} {m m' : M} (F : DF P w K mg base k f fd ps m) (h : ∀ ds S Q E, m' ds S Q E → m ds S Q E) : DF P w K mg base k f fd ps m' :=
  have z : ∀ {us : List V} {H : Hp} {Q : VK} {E : XK}, spM K m' ps.length us H Q E → spM K m ps.length us H Q E := fun ⟨F, S, ds, Q', E', h1, h2, h3, h4, h5, h6⟩ => ⟨F, S, ds, Q', E', h1, h2, h3, h _ _ _ _ h4, h5, h6⟩
  ⟨fun us H Q E q => F.many us H Q E (z q), fun A outer s H args ws us Q E hr e0 hb r hs => F.goes A outer s H args ws us Q E hr e0 hb r (z hs)⟩
/-- a def's body: its room, and what it lets out -/
structure BC (X : Cx) (F0 : Ent) (k : Nat) (E' : XD) : Prop where
  room : Rm k X.A
  calm : X.calm = true
  take : ∃ W : WX, Takes X W ∧ ∀ F' S' H' x cls od (σ : L2.St), σ.length = X.N.length → Ext F0.F F0.S F0.H F' S' H' → SR X.K F' S' H' → ExnRel X.K F' x cls od H' → E' x S' → W cls od σ H'
theorem BC.mono {X : Cx} {F0 : Ent} {j k : Nat} {E' : XD} (B : BC X F0 k E') (h : j ≤ k) : BC X F0 j E' := ⟨B.room.mono h, B.calm, B.take⟩
theorem BC.units {X : Cx} {F0 : Ent} {k : Nat} {E' : XD} (B : BC X F0 k E') : X.A.units + 64 < cLine := (B.room.room (Nat.zero_le _)).units
theorem BC.units1 {X : Cx} {F0 : Ent} {k : Nat} {E' : XD} (B : BC X F0 k E') : X.A.units + 1 < cLine := hu_of (B.room.room (Nat.zero_le _))
theorem takes_len {X : Cx} {W : WX} (t : Takes X W) : Takes X (fun c d σ H => σ.length = X.N.length → W c d σ H) := fun u s' ⟨a, B, sI, pins, σ, H, cls, d, e, I, nb, up, sky, na, os, ag, w⟩ =>
  t u s' ⟨a, B, sI, pins, σ, H, cls, d, e, I, nb, up, sky, na, os, ag, w I.len⟩
theorem BC.pass {X : Cx} {F0 : Ent} {k : Nat} {E' : XD} (B : BC X F0 k E') : ∃ E : XK, Passes (L2.CX X.prog X.w) X E ∧ ∀ F' S' H' x cls od, Ext F0.F F0.S F0.H F' S' H' → SR X.K F' S' H' → ExnRel X.K F' x cls od H' → E' x S' → E cls od H' := by
  obtain ⟨W, tk, hW⟩ := B.take
  exact ⟨fun cls d H => ∀ σ : L2.St, σ.length = X.N.length → W cls d σ H, passes_call (takes_len tk) (fun cls d σ H h hl => h σ hl), fun F' S' H' x cls od xx sr er q σ hl => hW F' S' H' x cls od σ hl xx sr er q⟩
theorem BC.imp {X : Cx} {F0 : Ent} {k : Nat} {E' E'' : XD} (B : BC X F0 k E') (h : ∀ x S, E'' x S → E' x S) : BC X F0 k E'' := by
  obtain ⟨W, tk, hW⟩ := B.take
  exact ⟨B.room, B.calm, W, tk, fun F' S' H' x cls od σ hl xx sr er q => hW F' S' H' x cls od σ hl xx sr er (h _ _ q)⟩
/-- nothing is let out -/
abbrev noX : XD := fun _ _ => False
theorem BC.none {X : Cx} {F0 : Ent} {k : Nat} (hr : Rm k X.A) (hc : X.calm = true) : BC X F0 k noX := ⟨hr, hc, fun _ _ _ _ => False, fun u s' ⟨a, B, sI, pins, σ, H, cls, d, e, I, nb, up, sky, na, os, ag, w⟩ => w.elim, fun _ _ _ _ _ _ _ _ _ _ _ z => z⟩
def tdCall (m : M) (n : Nat) (E' : XD) (t : TDs) : TD := fun ρ S Q => t ρ S fun ds S1 => ds.length = n ∧ m ds S1 Q E'
variable {k : Nat} {E' : XD} {f C : Addr} {fd : FuncData} {ps : List Str} {m : M} {x mn : Str} {apos p : Pos}
theorem call_go {ta : TA} {σ : L2.St} {H : Hp} {Q : VK} {E : XK} (hE : ∀ F' S' H' x cls od, Ext F0.F F0.S F0.H F' S' H' → SR X.K F' S' H' → ExnRel X.K F' x cls od H' → E' x S' → E cls od H')
    {n : Nat} (h : EL X.K F0 (tdCall m n E' tr) σ H Q) (hta : ∀ σ H R, AL X.K F0 tr σ H R → ta σ H R) : tCall (spM X.K m n) [] E ta σ H Q := by
  obtain ⟨F, S, ρ, Q', a, h, p⟩ := h
  refine hta _ _ _ (AL.go a h fun vs H1 F1 S1 ds x1 a1 r1 ⟨q0, q1⟩ => ?_)
  rw [List.append_nil]
  exact ⟨F1, S1, ds, Q', E', a1.sr, r1, q0, q1, p.ext x1, fun F' S' H' y cls od z sr er q => hE F' S' H' y cls od (a1.f0.trans z) sr er q⟩
theorem de_call (G : DF X.prog X.w X.K X.mg X.base k f fd ps m) (B : BC X F0 k E') (hg : Gl X x) (hm : X.mg x = some (.ref f)) (hk : PySem.W.keepIn X.K (.ref f) = true) (hb : Binds X.K fd ps []) (ha : DA X F0 (e :: es) tr)
    (hdb : (x == ("__debug__" : Str)) = false := by decide) (he : starEach (e :: es) X.env = (false, eval e X.env) :: starEach es X.env := by rfl) (hpl : (backTo pos (starEach es X.env)).any (·.1) = false := by rfl) :
    DE X F0 (.Call (.Name x p) (e :: es) [] pos) (tdCall m ps.length E' tr) := by
  obtain ⟨E, hp, hE⟩ := B.pass
  exact PE.weak (pd_call (E := E) G B.room hg hm hk hb hp ha hdb he hpl) fun σ H Q h => call_go hE h fun _ _ _ z => z
theorem de_call0 (G : DF X.prog X.w X.K X.mg X.base k f fd ps m) (B : BC X F0 k E') (hg : Gl X x) (hm : X.mg x = some (.ref f)) (hk : PySem.W.keepIn X.K (.ref f) = true) (hb : Binds X.K fd ps [])
    (hdb : (x == ("__debug__" : Str)) = false := by decide) : DE X F0 (.Call (.Name x p) [] [] pos) (tdCall m ps.length E' tdNil) := by
  obtain ⟨E, hp, hE⟩ := B.pass
  exact PE.weak (pd_call0 (E := E) G B.room hg hm hk hb hp hdb) fun σ H Q h => call_go (tr := tdNil) hE h fun σ H R ⟨F, S, ρ, Q', a, q, p⟩ => p [] H F S [] (Ext.refl _ _ _) a.sr .nil q
/-- o.m(..) -/
def tdMeth (C : Addr) (mn : Str) (m : M) (n : Nat) (E' : XD) (to : TD) (t : TDs) : TD := fun ρ S Q => to ρ S fun x S1 => ∃ a fs, x = .ref a ∧ S1 a = some (.ins C fs) ∧ fs.lookup mn = none ∧ t ρ S1 fun ds S2 => ds.length + 1 = n ∧ m (x :: ds) S2 Q E'
theorem meth_go {ta : TA} {σ : L2.St} {H : Hp} {Q : VK} {E : XK} (hE : ∀ F' S' H' x cls od, Ext F0.F F0.S F0.H F' S' H' → SR X.K F' S' H' → ExnRel X.K F' x cls od H' → E' x S' → E cls od H')
    {n : Nat} (h : EL X.K F0 (tdMeth C mn m n E' to tr) σ H Q) (hta : ∀ σ H R, AL X.K F0 tr σ H R → ta σ H R) : tMeth C mn (spM X.K m n) [] E (EL X.K F0 to) ta σ H Q := by
  obtain ⟨F, S, ρ, Q', a, h, p⟩ := h
  refine EL.go a h fun v H1 F1 S1 d x1 a1 r1 ⟨b, fs, e1, e2, e3, q1⟩ => ?_
  subst e1
  obtain ⟨dx, ws, h1, h2⟩ := a1.sr.ins e2
  refine ⟨b, dx, ws, r1.ref_e, h1, h2.lookup_none e3, hta _ _ _ (AL.go a1 q1 fun vs H2 F2 S2 ds x2 a2 r2 ⟨q0, q2⟩ => ?_)⟩
  rw [List.append_nil]
  exact ⟨F2, S2, _, Q', E', a2.sr, .cons (RelD.mono x2.same _ _ r1) r2, q0, q2, p.ext (x1.trans x2), fun F' S' H' y cls od z sr er q => hE F' S' H' y cls od (a2.f0.trans z) sr er q⟩
theorem de_meth {pl : Sem Bool} (ho : DE X F0 o to) (c : Cls X.K C) (hm : Meth X.K C mn f) (G : DF X.prog X.w X.K X.mg X.base k f fd ps m) (B : BC X F0 k E') (hb : Binds X.K fd ps []) (ha : DA X F0 (e :: es) tr)
    (hst : starEach (e :: es) X.env = (false, eval e X.env) :: starEach es X.env := by rfl) (hpl : (backTo pos (starEach es X.env)).any (·.1) = false := by rfl)
    (ht : eval (.Call (.Attribute o mn apos) (e :: es) [] pos) X.env = (do
      let ov ← eval o X.env
      standAt apos.atName
      let (f, first) ← holding [ov] (getMethod ov mn pl)
      callWith pos f first (backTo pos (starEach (e :: es) X.env)) (backToKw pos (keywordEach [] X.env))) := by rfl) : DE X F0 (.Call (.Attribute o mn apos) (e :: es) [] pos) (tdMeth C mn m ps.length E' to tr) := by
  obtain ⟨E, hp, hE⟩ := B.pass
  exact PE.weak (pd_meth (E := E) ho c hm G B.room hb hp ha hst hpl ht) fun σ H Q h => meth_go hE h fun _ _ _ z => z
theorem de_meth0 {pl : Sem Bool} (ho : DE X F0 o to) (c : Cls X.K C) (hm : Meth X.K C mn f) (G : DF X.prog X.w X.K X.mg X.base k f fd ps m) (B : BC X F0 k E') (hb : Binds X.K fd ps [])
    (ht : eval (.Call (.Attribute o mn apos) [] [] pos) X.env = (do
      let ov ← eval o X.env
      standAt apos.atName
      let (f, first) ← holding [ov] (getMethod ov mn pl)
      callWith pos f first (backTo pos (starEach [] X.env)) (backToKw pos (keywordEach [] X.env))) := by rfl) : DE X F0 (.Call (.Attribute o mn apos) [] [] pos) (tdMeth C mn m ps.length E' to tdNil) := by
  obtain ⟨E, hp, hE⟩ := B.pass
  exact PE.weak (pd_meth0 (E := E) ho c hm G B.room hb hp ht) fun σ H Q h => meth_go hE h fun σ H R ⟨F, S, ρ, Q', a, q, p⟩ => p [] H F S [] (Ext.refl _ _ _) a.sr .nil q
/-- C(..) -/
def tdMake (C : Addr) (m : M) (n : Nat) (E' : XD) (t : TDs) : TD := fun ρ S Q => t ρ S fun ds S1 => ds.length + 1 = n ∧ ∀ a, S1 a = none → m (.ref a :: ds) (sup S1 a (.ins C [])) (fun d S2 => d = .non ∧ Q (.ref a) S2) E'
theorem make_go {ta : TA} {σ : L2.St} {H : Hp} {Q : VK} {E : XK} (hE : ∀ F' S' H' x cls od, Ext F0.F F0.S F0.H F' S' H' → SR X.K F' S' H' → ExnRel X.K F' x cls od H' → E' x S' → E cls od H')
    {n : Nat} (h : EL X.K F0 (tdMake C m n E' tr) σ H Q) (hta : ∀ σ H R, AL X.K F0 tr σ H R → ta σ H R) : tMake C (spM X.K m n) [] E ta σ H Q := by
  obtain ⟨F, S, ρ, Q', a, h, p⟩ := h
  refine hta _ _ _ (AL.go a h fun vs H1 F1 S1 ds x1 a1 r1 ⟨q0, q1⟩ y dx hy hdx hne => ?_)
  rw [List.append_nil]
  have sr1 : SR X.K F1 S1 (upd H1 dx (.own y)) := a1.sr.laid hdx
  have hy1 : (upd H1 dx (.own y)) y = none := by rw [upd_ne hne.symm]; exact hy
  have xl : Ext F1 S1 H1 F1 S1 (upd H1 dx (.own y)) := by
    refine ⟨Same.refl _, fun b u q _ => ?_, fun _ q g => absurd g q, fun _ q => .inl q⟩
    rw [upd_ne]; exact q
    intro z; rw [z, hdx] at q; cases q
  have sr2 := sr1.box (o := .ins C []) (ho := .ins C dx []) hy1 ⟨dx, [], rfl, rfl⟩
  have x2 := xl.trans (sr1.ext_box (o := .ins C []) (ho := .ins C dx []) hy1)
  refine ⟨F1, _, _, _, E', sr2, .cons (.ref_i y) r1, q0, q1 y (a1.sr.snone hy), fun v H' F' S' d z sr rd ⟨e1, q⟩ => ?_, fun F' S' H' w cls od z sr er q => ?_⟩
  · subst e1
    exact ⟨rd.non_e, p.of ((x1.trans x2).trans z) sr (.ref_i y) q⟩
  · exact hE F' S' H' w cls od (a1.f0.trans (x2.trans z)) sr er q
theorem de_make (Mk' : Mk X.K C f) (G : DF X.prog X.w X.K X.mg X.base k f fd ps m) (B : BC X F0 (k + 1) E') (hg : Gl X x) (hm : X.mg x = some (.ref C)) (hb : Binds X.K fd ps []) (ha : DA X F0 (e :: es) tr)
    (hdb : (x == ("__debug__" : Str)) = false := by decide) (he : starEach (e :: es) X.env = (false, eval e X.env) :: starEach es X.env := by rfl) (hpl : (backTo pos (starEach es X.env)).any (·.1) = false := by rfl) :
    DE X F0 (.Call (.Name x p) (e :: es) [] pos) (tdMake C m ps.length E' tr) := by
  obtain ⟨E, hp, hE⟩ := B.pass
  exact PE.weak (pd_make (E := E) Mk' G B.room hg hm hb hp ha hdb he hpl) fun σ H Q h => make_go hE h fun _ _ _ z => z
end
end DL
namespace DL
open PySem PySem.Spec L2
/-- an iterator that walks the data ds while the frozen heap stands -/
structure Iters (K : PySem.W.Frag) (F : Hp) (J : It) (ds : List D) : Prop where
  go : ∀ i H, Same F H → i < ds.length → J.go i H
  stop : ∀ i H, Same F H → ds.length ≤ i → J.stop i H
  yld : ∀ i x H H' F2 S, Same F F2 → SR K F2 S H → J.yld i H x H' → i < ds.length → ∃ F3 d, Ext F2 S H F3 S H' ∧ SR K F3 S H' ∧ ds[i]? = some d ∧ RelD K F3 d x
abbrev TDI := Rho → Store → (List D → Store → Prop) → Prop
def IL (K : PySem.W.Frag) (F0 : Ent) (t : TDI) : TI := fun σ H R => ∃ F S ρ Q', At K F0 F S H ρ σ ∧ t ρ S Q' ∧ ∀ J H' F' S' ds, Ext F S H F' S' H' → SR K F' S' H' → Iters K F' J ds → Q' ds S' → R J H'
def DI (X : Cx) (F0 : Ent) (tg it : Expr) (t : TDI) : Prop := PI X tg it (IL X.K F0 t)
theorem PI.weak {X : Cx} {tg it : Expr} {w w' : TI} (h : PI X tg it w) (k : ∀ σ H R, w' σ H R → w σ H R) : PI X tg it w' := ⟨fun pins s σ H R I q => h.run pins s σ H R I (k _ _ _ q)⟩
theorem IL.go {K : PySem.W.Frag} {F0 : Ent} {F : Hp} {S : Store} {H : Hp} {ρ : Rho} {σ : L2.St} {t : TDI} {R : It → Hp → Prop} {Q1 : List D → Store → Prop} (a : At K F0 F S H ρ σ) (h : t ρ S Q1)
    (n : ∀ J H1 F1 S1 ds, Ext F S H F1 S1 H1 → At K F0 F1 S1 H1 ρ σ → Iters K F1 J ds → Q1 ds S1 → R J H1) : IL K F0 t σ H R :=
  ⟨F, S, ρ, Q1, a, h, fun J H1 F1 S1 ds x r it q => n J H1 F1 S1 ds x (a.next x r) it q⟩
section
variable {K : PySem.W.Frag} {F : Hp}
theorem Iters.lst {a : Addr} {vs : List V} {ds : List D} (h : ∀ H, Same F H → SqL K H a vs) (r : RelDs K F ds vs) : Iters K F (Itl K a) ds where
  go := fun i H sm hi => by
    obtain ⟨v, h1, h2⟩ := r.get (List.getElem?_eq_getElem hi)
    exact ⟨vs, v, h H sm, h1⟩
  stop := fun i H sm hi => ⟨vs, h H sm, by rw [r.length]; exact hi⟩
  yld := fun i x H H' F2 S sm sr y hi => by
    obtain ⟨rfl, y⟩ := y
    obtain ⟨d, h1, h2⟩ := r.get' (y vs (h _ (sm.trans sr.fro)))
    exact ⟨F2, d, Ext.refl _ _ _, sr, h1, RelD.mono sm _ _ h2⟩
theorem Iters.tup {a : Addr} {vs : List V} {ds : List D} (h : ∀ H, Same F H → SqT K H a vs) (r : RelDs K F ds vs) : Iters K F (Itt K a) ds where
  go := fun i H sm hi => by
    obtain ⟨v, h1, h2⟩ := r.get (List.getElem?_eq_getElem hi)
    exact ⟨vs, v, h H sm, h1⟩
  stop := fun i H sm hi => ⟨vs, h H sm, by rw [r.length]; exact hi⟩
  yld := fun i x H H' F2 S sm sr y hi => by
    obtain ⟨rfl, y⟩ := y
    obtain ⟨d, h1, h2⟩ := r.get' (y vs (h _ (sm.trans sr.fro)))
    exact ⟨F2, d, Ext.refl _ _ _, sr, h1, RelD.mono sm _ _ h2⟩
/-- the ints of a range -/
def rngD (lo : Int) (n : Nat) : List D := (List.range n).map fun (i : Nat) => D.int (lo + (i : Int))
theorem Iters.rng (lo : Int) (n : Nat) : Iters K F (Itr lo n) (rngD lo n) where
  go := fun i H _ hi => by
    have h : i < n := by simpa [rngD] using hi
    exact h
  stop := fun i H _ hi => by
    have h : n ≤ i := by simpa [rngD] using hi
    exact h
  yld := fun i x H H' F2 S sm sr y hi => by
    obtain ⟨rfl, rfl⟩ := y
    have hi' : i < n := by simpa [rngD] using hi
    exact ⟨F2, .int (lo + i), Ext.refl _ _ _, sr, by simp [rngD, hi'], .int_i _⟩
end
section
variable {X : Cx} {F0 : Ent} {tg e it : Expr} {es : List Expr} {t : TD} {tr : TDs} {pos : Pos}
def tdiL (t : TD) : TDI := fun ρ S Q => t ρ S fun x S1 => match x with
  | .lst ds => Q ds S1
  | _ => False
def tdiT (t : TD) : TDI := fun ρ S Q => t ρ S fun x S1 => match x with
  | .tup ds => Q ds S1
  | _ => False
theorem di_lst (he : DE X F0 e t) : DI X F0 tg e (tdiL t) := PI.weak (pi_list he) fun σ H R ⟨F, S, ρ, Q', a, h, p⟩ => EL.go a h fun v H1 F1 S1 d x1 a1 r1 q1 => by
  split at q1
  · obtain ⟨b, vs, rfl, h1, h2⟩ := r1.lst_e
    exact ⟨b, rfl, ⟨vs, .of (a1.sr.fro _ _ h1)⟩, p _ _ _ _ _ x1 a1.sr (.lst (fun H sm => .of (sm _ _ h1)) h2) q1⟩
  · exact q1.elim
theorem di_tup (he : DE X F0 e t) : DI X F0 tg e (tdiT t) := PI.weak (pi_tup he) fun σ H R ⟨F, S, ρ, Q', a, h, p⟩ => EL.go a h fun v H1 F1 S1 d x1 a1 r1 q1 => by
  split at q1
  · obtain ⟨b, vs, rfl, h1, h2⟩ := r1.tup_e
    exact ⟨b, rfl, ⟨vs, seqT a1.sr.fro h1⟩, p _ _ _ _ _ x1 a1.sr (.tup (fun H sm => seqT sm h1) h2) q1⟩
  · exact q1.elim
def tdiR (t : TDs) : TDI := fun ρ S Q => t ρ S fun ds S1 => match ds with
  | [.int j] => -(2 ^ 62) ≤ j ∧ j < 2 ^ 62 ∧ Q (rngD 0 j.toNat) S1
  | _ => False
theorem di_rng {a : Expr} {p : Pos} (hg : Gl X "range") (hm : X.mg "range" = none) (ha : DA X F0 [a] tr) (hs : starEach [a] X.env = [(false, eval a X.env)] := by rfl) : DI X F0 tg (.Call (.Name "range" p) [a] [] pos) (tdiR tr) :=
  PI.weak (pi_range1 hg hm ha hs) fun σ H R ⟨F, S, ρ, Q', a, h, p⟩ => AL.go a h fun vs H1 F1 S1 ds x1 a1 r1 q1 => by
    split at q1
    · obtain ⟨v, rfl, rv⟩ := rds1 r1
      obtain rfl := rv.int_e
      exact ⟨_, rfl, q1.1, q1.2.1, p _ _ _ _ _ x1 a1.sr (.rng _ _) q1.2.2⟩
    · exact q1.elim
def tdiR2 (t : TDs) : TDI := fun ρ S Q => t ρ S fun ds S1 => match ds with
  | [.int i, .int j] => (-(2 ^ 62) ≤ i ∧ i < 2 ^ 62 ∧ -(2 ^ 62) ≤ j ∧ j < 2 ^ 62) ∧ Q (rngD i (j - i).toNat) S1
  | _ => False
theorem di_rng2 {a b : Expr} {p : Pos} (hg : Gl X "range") (hm : X.mg "range" = none) (ha : DA X F0 [a, b] tr) (hs : starEach [a, b] X.env = [(false, eval a X.env), (false, eval b X.env)] := by rfl) (hs2 : starEach [b] X.env = [(false, eval b X.env)] := by rfl) : DI X F0 tg (.Call (.Name "range" p) [a, b] [] pos) (tdiR2 tr) :=
  PI.weak (pi_range2 hg hm ha hs hs2) fun σ H R ⟨F, S, ρ, Q', a, h, p⟩ => AL.go a h fun vs H1 F1 S1 ds x1 a1 r1 q1 => by
    split at q1
    · obtain ⟨v, w, rfl, rv, rw'⟩ := rds2 r1
      obtain rfl := rv.int_e
      obtain rfl := rw'.int_e
      exact ⟨_, _, rfl, q1.1, p _ _ _ _ _ x1 a1.sr (.rng _ _) q1.2⟩
    · exact q1.elim
def forR (g : TDG) (tb : TDS) (D : DEnds) : List DL.D → Rho → Store → Prop
  | [], ρ, S => D.nx ρ S
  | d :: ds, ρ, S => g d ρ S fun ρ1 S1 => tb { D with nx := forR g tb D ds, ct := forR g tb D ds, bk := D.nx } ρ1 S1
def tdFor (ti : TDI) (g : TDG) (tb : TDS) : TDS := fun D ρ S => ti ρ S fun ds S1 => forR g tb D ds ρ S1
theorem ds_for {iter : Expr} {body : List Stmt} {ti : TDI} {g : TDG} {tb : TDS} (hp : PassesOwn (model X.prog X.w) X.A X.env X.xe) (hc : X.calm = true) (hi : DI X F0 tg iter ti) (hg : DG X F0 tg g) (hb : DSs X F0 body tb)
    (hs : ∀ x, foldedSetIterable iter X.env x = pure x := by intro _; rfl) : DS X F0 (.For tg iter body [] pos) (tdFor ti g tb) :=
  PS.weak (ps_for hp hc hi hg hb hs) fun D σ H ⟨F, S, ρ, D', a, h, p⟩ => IL.go a h fun J H1 F1 S1 ds x1 a1 it q1 => by
    refine ⟨fun i m σ H => m = ds.length - i ∧ i ≤ ds.length ∧ ∃ F S ρ, Ext F1 S1 H1 F S H ∧ At X.K F0 F S H ρ σ ∧ forR g tb D' (ds.drop i) ρ S, ⟨ds.length, by omega, Nat.zero_le _, F1, S1, ρ, Ext.refl _ _ _, a1, q1⟩, ?_⟩
    rintro i m σ2 H2 ⟨rfl, hi, F2, S2, ρ2, x2, a2, q2⟩
    have sm : Same F1 H2 := x2.same.trans a2.sr.fro
    by_cases hlt : i < ds.length
    · refine .inr ⟨it.go i H2 sm hlt, fun σ H => ∃ F S ρ, Ext F1 S1 H1 F S H ∧ At X.K F0 F S H ρ σ ∧ forR g tb D' (ds.drop (i + 1)) ρ S, fun σ' H' n => ⟨ds.length - (i + 1), by omega, rfl, hlt, n⟩, fun x H' y => ?_⟩
      obtain ⟨F3, d, x3, sr3, hd, rd⟩ := it.yld i x H2 H' F2 S2 x2.same a2.sr y hlt
      have e : ds.drop i = d :: ds.drop (i + 1) := by
        rw [List.drop_eq_getElem_cons hlt]
        congr 1
        rw [List.getElem?_eq_getElem hlt] at hd
        exact Option.some.inj hd
      rw [e] at q2
      have a3 := a2.next x3 sr3
      refine ⟨F3, S2, ρ2, d, _, a3, rd, q2, fun σ4 H4 F4 S4 ρ4 x4 sr4 ev4 q4 => ?_⟩
      have x14 := (x2.trans x3).trans x4
      have a4 : At X.K F0 F4 S4 H4 ρ4 σ4 := ⟨a3.f0.trans x4, sr4, ev4⟩
      refine ⟨F4, S4, ρ4, _, a4, q4, ?_, ?_, ?_, ?_⟩
      · intro σ5 H5 F5 S5 ρ5 x5 sr5 ev5 q5
        exact ⟨F5, S5, ρ5, x14.trans x5, ⟨a4.f0.trans x5, sr5, ev5⟩, q5⟩
      · intro v5 H5 F5 S5 d5 x5 sr5 rd5 q5
        exact p.2.1 _ _ _ _ _ (x1.trans (x14.trans x5)) sr5 rd5 q5
      · intro σ5 H5 F5 S5 ρ5 x5 sr5 ev5 q5
        exact p.1 _ _ _ _ _ (x1.trans (x14.trans x5)) sr5 ev5 q5
      · intro σ5 H5 F5 S5 ρ5 x5 sr5 ev5 q5
        exact ⟨F5, S5, ρ5, x14.trans x5, ⟨a4.f0.trans x5, sr5, ev5⟩, q5⟩
    · refine .inl ⟨it.stop i H2 sm (by omega), ?_⟩
      rw [List.drop_eq_nil_of_le (by omega)] at q2
      exact p.nx (x1.trans x2) a2 q2
def whileN (c : TDT) (tb : TDS) (D : DEnds) : Nat → Rho → Store → Prop
  | 0, _, _ => False
  | n + 1, ρ, S => c ρ S fun b S1 => if b = true then tb { D with nx := whileN c tb D n, ct := whileN c tb D n, bk := D.nx } ρ S1 else D.nx ρ S1
def tdWhile (c : TDT) (tb : TDS) : TDS := fun D ρ S => ∃ n, whileN c tb D n ρ S
theorem ds_while {c : Expr} {body : List Stmt} {tc : TDT} {tb : TDS} (hp : PassesOwn (model X.prog X.w) X.A X.env X.xe) (hc : DT X F0 c tc) (hb : DSs X F0 body tb) : DS X F0 (.While c body [] pos) (tdWhile tc tb) :=
  PS.weak (ps_while hp hc hb) fun D σ H ⟨F1, S1, ρ, D', a1, ⟨n, h⟩, p⟩ => by
    refine ⟨fun m σ H' => ∃ F S ρ, Ext F1 S1 H F S H' ∧ At X.K F0 F S H' ρ σ ∧ whileN tc tb D' m ρ S, ⟨n, F1, S1, ρ, Ext.refl _ _ _, a1, h⟩, ?_⟩
    rintro m σ2 H2 ⟨F2, S2, ρ2, x2, a2, q2⟩
    cases m with
    | zero => exact q2.elim
    | succ m =>
      refine TL.go a2 q2 fun b H3 F3 S3 x3 a3 q3 => ?_
      cases b with
      | false => exact iteF (p.nx (x2.trans x3) a3 q3)
      | true =>
        refine iteT ⟨fun σ H' => ∃ F S ρ, Ext F1 S1 H F S H' ∧ At X.K F0 F S H' ρ σ ∧ whileN tc tb D' m ρ S, fun σ' H' q => ⟨m, Nat.lt_succ_self _, q⟩, F3, S3, ρ2, _, a3, q3, ?_, ?_, ?_, ?_⟩
        · intro σ5 H5 F5 S5 ρ5 x5 sr5 ev5 q5
          exact ⟨F5, S5, ρ5, (x2.trans x3).trans x5, ⟨a3.f0.trans x5, sr5, ev5⟩, q5⟩
        · intro v5 H5 F5 S5 d5 x5 sr5 rd5 q5
          exact p.2.1 _ _ _ _ _ ((x2.trans x3).trans x5) sr5 rd5 q5
        · intro σ5 H5 F5 S5 ρ5 x5 sr5 ev5 q5
          exact p.1 _ _ _ _ _ ((x2.trans x3).trans x5) sr5 ev5 q5
        · intro σ5 H5 F5 S5 ρ5 x5 sr5 ev5 q5
          exact ⟨F5, S5, ρ5, (x2.trans x3).trans x5, ⟨a3.f0.trans x5, sr5, ev5⟩, q5⟩
def lcR (v : Nat) (tt : TDT) (te : TD) (ρ : Rho) : List D → List D → Store → (List D → Store → Prop) → Prop
  | [], acc, S, Q => Q acc S
  | d :: ds, acc, S, Q => tt (ρ.set v (some d)) S fun b S1 => if b = true then te (ρ.set v (some d)) S1 fun y S2 => acc.length < sizeLine ∧ lcR v tt te ρ ds (acc ++ [y]) S2 Q else lcR v tt te ρ ds acc S1 Q
def tdLc (ti : TDI) (v : Nat) (tt : TDT) (te : TD) : TD := fun ρ S Q => ti ρ S fun ds S1 => lcR v tt te ρ ds [] S1 fun ys S2 => Q (.lst ys) S2
def DTs (X : Cx) (F0 : Ent) (ifs : List Expr) (t : TDT) : Prop := PTs X ifs (TL X.K F0 t)
def tdYes : TDT := fun _ S Q => Q true S
theorem PTs.weak {ifs : List Expr} {t t' : TT} (h : PTs X ifs t) (w : ∀ σ H Q, t' σ H Q → t σ H Q) : PTs X ifs t' := ⟨fun pins s σ H Q I q => h.run pins s σ H Q I (w _ _ _ q)⟩
theorem dts_nil : DTs X F0 [] tdYes := PTs.weak pts_nil fun σ H Q ⟨F, S, ρ, Q', a, h, p⟩ => p true H F S (Ext.refl _ _ _) a.sr h
theorem dts_one {c : Expr} {tt : TDT} (h : DT X F0 c tt) : DTs X F0 [c] tt := pts_one h
theorem Ext.reset {K : PySem.W.Frag} {F1 F : Hp} {S1 S : Store} {H1 H : Hp} {p : Addr} {o1 o2 : HO} (x : Ext F1 S1 (upd H1 p o1) F S H) : Ext F1 S1 (upd H1 p o2) F S (upd H p o2) where
  same := x.same
  off := fun b u q n => by
    by_cases z : b = p
    · subst z; rw [upd_same] at q ⊢; exact q
    · rw [upd_ne z] at q ⊢; exact x.off b u (by rw [upd_ne z]; exact q) n
  newF := fun b q g => by
    rcases x.newF b q g with z | z
    · exact .inl z
    · by_cases e : b = p
      · subst e; rw [upd_same] at z; cases z
      · rw [upd_ne e] at z ⊢; exact .inr z
  newS := fun b q => by
    rcases x.newS b q with z | z
    · exact .inl z
    · by_cases e : b = p
      · subst e; rw [upd_same] at z; cases z
      · rw [upd_ne e] at z ⊢; exact .inr z
theorem SR.re {K : PySem.W.Frag} {F : Hp} {S : Store} {H : Hp} {p : Addr} {o : HO} (sr : SR K F S H) (hF : F p = none) (hS : S p = none) : SR K F S (upd H p o) where
  fro := fun b u q => by
    rw [upd_ne]; exact sr.fro b u q
    intro z; rw [z, hF] at q; cases q
  obj := fun b u q => by
    obtain ⟨h1, ho', h2, h3⟩ := sr.obj b u q
    have z : b ≠ p := by intro z; rw [z, hS] at q; cases q
    rw [upd_ne z]; exact ⟨h1, ho', h2, h3⟩
theorem upd_id {H : Hp} {a : Addr} {o : HO} (h : H a = some o) : upd H a o = H := by
  funext b; unfold upd
  by_cases e : b = a
  · rw [if_pos e, e, h]
  · rw [if_neg e]
theorem lc_go {ti : TDI} {v : Nat} {tt : TDT} {te : TD} {K : PySem.W.Frag} {σ : L2.St} {H : Hp} {Q : VK} (h : EL K F0 (tdLc ti v tt te) σ H Q) : tLc (IL K F0 ti) (gName v) (TL K F0 tt) (EL K F0 te) [v] σ H Q := by
  obtain ⟨F, S, ρ, Q', a, h, p⟩ := h
  refine IL.go a h fun J H1 F1 S1 ds x1 a1 it q1 D hD => ?_
  refine ⟨fun i m H => m = ds.length - i ∧ i ≤ ds.length ∧ ∃ F S acc vs, Ext F1 S1 (upd H1 D (.lst vs)) F S H ∧ SR K F S H ∧ RelDs K F acc vs ∧ lcR v tt te ρ (ds.drop i) acc S fun ys S2 => Q' (.lst ys) S2,
    ⟨ds.length, by omega, Nat.zero_le _, F1, S1, [], [], Ext.refl _ _ _, a1.sr.laid hD, .nil, q1⟩, ?_⟩
  rintro i m H2 ⟨rfl, hi, F2, S2, acc, vs, x2, sr2, racc, q2⟩
  have sm : Same F1 H2 := x2.same.trans sr2.fro
  obtain ⟨nF, nS, hH⟩ := x2.laid_none a1.sr hD
  by_cases hlt : i < ds.length
  · refine .inr ⟨it.go i H2 sm hlt, fun H => ∃ F S acc vs, Ext F1 S1 (upd H1 D (.lst vs)) F S H ∧ SR K F S H ∧ RelDs K F acc vs ∧ lcR v tt te ρ (ds.drop (i + 1)) acc S fun ys S2 => Q' (.lst ys) S2, fun H' n => ⟨ds.length - (i + 1), by omega, rfl, hlt, n⟩, fun x H' y => ?_⟩
    obtain ⟨F3, d, x3, sr3, hd, rd⟩ := it.yld i x H2 H' F2 S2 x2.same sr2 y hlt
    have e : ds.drop i = d :: ds.drop (i + 1) := by
      rw [List.drop_eq_getElem_cons hlt]
      congr 1
      rw [List.getElem?_eq_getElem hlt] at hd
      exact Option.some.inj hd
    rw [e] at q2
    have x13 : Ext F1 S1 (upd H1 D (.lst vs)) F3 S2 H' := x2.trans x3
    have a3 : At K F0 F3 S2 H' (ρ.set v (some d)) ((wipe σ [v]).set v (some x)) := by
      refine ⟨a1.f0.trans ((Ext.laid hD).trans x13), sr3, ?_⟩
      have h0 : (wipe σ [v]).set v (some x) = σ.set v (some x) := by
        show (σ.set v none).set v (some x) = _
        rw [List.set_set]
      rw [h0]
      exact (a1.env.mono x13.same).set rd v
    refine ⟨?_, ?_⟩
    · show ((σ.set v none).set v (some x)).set v none = σ.set v none
      rw [List.set_set, List.set_set]
    · refine TL.go a3 q2 fun b H4 F4 S4 x4 a4 q4 => ?_
      cases b with
      | false => exact iteF ⟨F4, S4, acc, vs, x13.trans x4, a4.sr, RelDs.mono x4.same _ _ (RelDs.mono x3.same _ _ racc), q4⟩
      | true =>
        refine iteT (EL.go a4 q4 fun w H5 F5 S5 yd x5 a5 r5 ⟨hl, q5⟩ => ?_)
        have x15 := (x13.trans x4).trans x5
        obtain ⟨nF5, nS5, hH5⟩ := x15.laid_none a1.sr hD
        have racc5 := RelDs.mono x5.same _ _ (RelDs.mono x4.same _ _ (RelDs.mono x3.same _ _ racc))
        refine ⟨vs, hH5, by rw [racc5.length]; exact hl, ?_⟩
        exact ⟨F5, S5, acc ++ [yd], vs ++ [w], Ext.reset (K := K) x15, a5.sr.re nF5 nS5, racc5.append (.cons r5 .nil), q5⟩
  · refine .inl ⟨it.stop i H2 sm (by omega), ?_⟩
    rw [List.drop_eq_nil_of_le (by omega)] at q2
    obtain ⟨k1, k2⟩ := sr2.adoptF (ho := .lst vs) nF nS
    have k3 := x2.adoptF (ho := .lst vs) hD nF
    rw [upd_id hH] at k1 k3
    exact p.of (x1.trans k3) k1 (RelD.lst_i upd_same (RelDs.mono k2 _ _ racc)) q2
theorem de_lc {elt iter : Expr} {ifs : List Expr} {scope : Scope} {x : Str} {xp : Pos} {v : Nat} {ti : TDI} {tt : TDT} {te : TD} (hc : X.calm = true) (hN : X.N.Nodup) (hi : DI X F0 (.Name x xp) iter ti) (ok : BlkOk X.N X.env.scope scope [(x, v)])
    (hg : ∀ (s : Shared) (H : Hp) (C : Addr) (cl : List (Str × Addr)) (fp : List Addr), PG (X.blk s H scope (compEnvC scope cl C X.env) fp) (.Name x xp) (gName v))
    (ht : ∀ (s : Shared) (H : Hp) (C : Addr) (cl : List (Str × Addr)) (fp : List Addr), DTs (X.blk s H scope (compEnvC scope cl C X.env) fp) F0 ifs tt)
    (he : ∀ (s : Shared) (H : Hp) (C : Addr) (cl : List (Str × Addr)) (fp : List Addr), DE (X.blk s H scope (compEnvC scope cl C X.env) fp) F0 elt te) (hs : ∀ x, foldedSetIterable iter X.env x = pure x := by intro _; rfl) :
    DE X F0 (.ListComp elt [⟨.Name x xp, iter, ifs, 0⟩] scope pos) (tdLc ti v tt te) :=
  PE.weak (pe_lc (own := [(x, v)]) (tt := TL X.K F0 tt) (te := EL X.K F0 te) hc hN hi ok hg ht he hs) fun σ H Q h => lc_go h
theorem ds_setLc (i : Nat) {y : Str} {py : Pos} {elt iter : Expr} {ifs : List Expr} {scope : Scope} {x : Str} {xp spos : Pos} {v : Nat} {ti : TDI} {tt : TDT} {te : TD} (hc : X.calm = true) (hN : X.N.Nodup) (hy : X.N[i]? = some y) (hyl : X.env.scope.names.lookup y = some .local)
    (hsw : swapsWith (.ListComp elt [⟨.Name x xp, iter, ifs, 0⟩] scope pos) (some (.Name y py)) spos.line X.env = pure true) (hi : DI X F0 (.Name x xp) iter ti) (ok : BlkOk X.N X.env.scope scope [(x, v)])
    (hg : ∀ (s : Shared) (H : Hp) (C : Addr) (cl : List (Str × Addr)) (fp : List Addr), PG (X.blk s H scope (compEnvC scope cl C X.env) fp) (.Name x xp) (gName v))
    (ht : ∀ (s : Shared) (H : Hp) (C : Addr) (cl : List (Str × Addr)) (fp : List Addr), DTs (X.blk s H scope (compEnvC scope cl C X.env) fp) F0 ifs tt)
    (he : ∀ (s : Shared) (H : Hp) (C : Addr) (cl : List (Str × Addr)) (fp : List Addr), DE (X.blk s H scope (compEnvC scope cl C X.env) fp) F0 elt te) (hs : ∀ x, foldedSetIterable iter X.env x = pure x := by intro _; rfl) :
    DS X F0 (.Assign [.Name y py] (.ListComp elt [⟨.Name x xp, iter, ifs, 0⟩] scope pos) spos) (tdAsg (tdLc ti v tt te) (gdName i)) :=
  PS.weak (ps_setLc (own := [(x, v)]) (tt := TL X.K F0 tt) (te := EL X.K F0 te) hc hN hy hyl hsw hi ok hg ht he hs) fun D σ H ⟨F, S, ρ, D', a, h, p⟩ => by
    show tLc _ _ _ _ _ σ H _
    exact lc_go (EL.go a h fun w H1 F1 S1 d x1 a1 r1 q1 => p.1 _ _ _ _ _ x1 a1.sr (a1.env.set r1 i) q1)
end
/-- at a def's end: what is left over is forgotten; a list that only the end knows is data -/
def Fini (Q : D → Store → Prop) : D → Store → Prop := fun d S => (∃ S', Sub S' S ∧ Q d S') ∨ ∃ a ds S', d = .ref a ∧ S a = some (.lst ds) ∧ Sub S' S ∧ S' a = none ∧ Q (.lst ds) S'
theorem Fini.of {Q : D → Store → Prop} {d : D} {S : Store} (h : Q d S) : Fini Q d S := .inl ⟨S, Sub.refl S, h⟩
def startD (N : List Str) (ds : List D) : Rho := ds.map some ++ List.replicate (N.length - ds.length) none
section
variable {P : Program} {w : World} {K : PySem.W.Frag} {mg : Str → Option Value} {base : Heap}
theorem fini_go {F : Hp} {S : Store} {H : Hp} {Q' : D → Store → Prop} {Q : VK} (p : Post K F S H Q' Q) {F1 : Hp} {S1 : Store} {H1 : Hp} {d : D} {v : V} (x : Ext F S H F1 S1 H1) (sr : SR K F1 S1 H1) (rd : RelD K F1 d v) (q : Fini Q' d S1) : Q v H1 := by
  rcases q with ⟨S', hs, q⟩ | ⟨a, ds, S', rfl, e, hs, hn, q⟩
  · exact p.of (x.trans (SR.ext_sub hs)) (sr.sub hs) rd q
  · obtain ⟨F', k1, k2, k3⟩ := sr.freeze e
    have hs' : Sub S' (sdel S1 a) := fun b u h => by
      unfold sdel
      rw [if_neg]; exact hs b u h
      intro z; rw [z, hn] at h; cases h
    rw [rd.ref_e]
    exact p.of ((x.trans k2).trans (SR.ext_sub hs')) (k1.sub hs') k3 q
theorem startD_rel {F : Hp} {N : List Str} {ds : List D} {vs : List V} (r : RelDs K F ds vs) : RelE K F (startD N ds) (L2.start N vs) := by
  unfold startD L2.start
  refine ⟨by simp [r.length], fun i d h => ?_⟩
  have hl := r.length
  by_cases hi : i < ds.length
  · rw [List.getElem?_append_left (by simpa using hi), List.getElem?_map] at h
    cases q : ds[i]? with
    | none => rw [q] at h; cases h
    | some d' =>
      rw [q] at h; cases h
      obtain ⟨v, h1, h2⟩ := r.get q
      refine ⟨v, ?_, h2⟩
      rw [List.getElem?_append_left (by simp; omega), List.getElem?_map, h1]; rfl
  · rw [List.getElem?_append_right (by simp; omega), List.getElem?_replicate] at h
    split at h <;> cases h
theorem df_of {x qual : Str} {st : Stmt} {f : Addr} {fd : FuncData} {N ps : List Str} {k : Nat} {m : M} {t : XD → TDS} (Fn : Fun K x qual st f fd) (Sc : FnScope N ps (defScope st))
    (body : ∀ (cdv : Value) (A : Around) (outer : List Env) (s : Shared) (H : Hp) (E : XK) (F0 : Ent) (E' : XD), BC (cxOf (L2.CX P w) P w K mg base N qual (defScope st) f cdv A outer s H E) F0 k E' →
      DSs (cxOf (L2.CX P w) P w K mg base N qual (defScope st) f cdv A outer s H E) F0 (defBody st) (t E'))
    (read : ∀ (ds : List D) (S : Store) (Q : D → Store → Prop) (E : XD), ds.length = ps.length → m ds S Q E → t E { nx := fun _ S' => Fini Q .non S', rt := Fini Q } (startD N ds) S) :
    DF P w K mg base (k + 1) f fd ps m := by
  refine fnd_of Fn Sc (fun vs H Q E ⟨F, S, ds, Q', E', h1, h2, h3, h4, h5, h6⟩ => by rw [h2.length, h3]) fun cdv A outer s H vs Q E hr ⟨F, S, ds, Q', E', h1, h2, h3, h4, h5, h6⟩ => ?_
  have B : BC (cxOf (L2.CX P w) P w K mg base N qual (defScope st) f cdv A outer s H E) ⟨F, S, H⟩ k E' :=
    ⟨hr, rfl, _, takes_of rfl rfl rfl rfl, fun F' S' H' y cls od σ hl z sr er q => h6 F' S' H' y cls od z sr er q⟩
  refine ⟨_, body cdv A outer s H E ⟨F, S, H⟩ E' B, F, S, startD N ds, _, ⟨Ext.refl _ _ _, h1, startD_rel h2⟩, read ds S Q' E' h3 h4, ?_, ?_, ?_, ?_⟩
  · exact fun σ' H' F' S' ρ' z sr ev q => fini_go h5 z sr .non_i q
  · exact fun v H' F' S' d z sr rd q => fini_go h5 z sr rd q
  · exact fun _ _ _ _ _ _ _ _ q => q
  · exact fun _ _ _ _ _ _ _ _ q => q
end
end DL
namespace DL
open PySem PySem.Spec L2
/-- what stands of the class C and its __init__ -/
structure RF (P : Program) (K : PySem.W.Frag) (qual : Str) (st : Stmt) (C fI cc cda : Addr) (fd : FuncData) : Prop where
  T : OexC K C
  init : PySem.W.findIn K (.ref C) "__init__" = some (some (.ref fI))
  tI : PySem.W.typeIn K (.ref fI) = some (.type "function")
  fn : ∃ (oc : Value) (od : Option Addr) (kV doc pm : Value) (an : Option Addr) (ct : Value) (osl : Array (Option Value)), fd = PySem.W.ksFn "__init__" qual (defArgs st) (defBody st) (defScope st) .none kV doc pm an (.ref cda) ct cc ∧ K.lookup fI = some ⟨oc, od, .func fd, osl⟩
  code : PySem.W.codeIn K (.ref cda) qual = true
  file : ∃ (oc : Value) (od : Option Addr) (vs : Array Value) (sl : Array (Option Value)) (tf : Tok), K.lookup cda = some ⟨oc, od, .fields vs, sl⟩ ∧ vs[2]? = some (.str P.main.file tf)
  cell : ∃ (cl : Value) (cld : Option Addr) (csl : Array (Option Value)), K.lookup cc = some ⟨cl, cld, .cell (some (.ref C)), csl⟩
  sup : PySem.W.ks_superIn K C C "__init__" = some (some (.builtin "ValueError.__init__"))
  tp : PySem.W.nsIn K cStatics "thirdparty.any" = some none
  top : (P.main.scope.names.lookup ("super" : Str)).isSome = false
  subVE : PySem.W.subIn K (.ref C) (.type "ValueError") = some true
  noPos : PySem.W.findIn K (.ref C) "position" = some none
  mroC : PySem.W.mroIn K C (.ref C) = some true
section
variable {P : Program} {w : World} {K : PySem.W.Frag} {mg : Str → Option Value} {base : Heap}
/-- the context of that __init__'s body -/
def cxI (P : Program) (w : World) (K : PySem.W.Frag) (mg : Str → Option Value) (base : Heap) (qual : Str) (scope : Scope) (fI cda cc : Addr) (A : Around) (outer : List Env) (s : Shared) (H : Hp) : Cx where
  prog := P
  w := w
  K := K
  mg := mg
  base := base
  A := A.deeper (PySem.W.ksEnv qual scope s.heap.objs.size fI (.ref cda) cc)
  N := ["self", "position"]
  s_0 := s
  H_0 := H
  env := PySem.W.ksEnv qual scope s.heap.objs.size fI (.ref cda) cc
  outer := outer
  stack := PySem.W.ksEnv qual scope s.heap.objs.size fI (.ref cda) cc :: outer
  ex := []
  calm := true
  fn := fun _ => false
  pn := []
  xe := fun _ _ => False
theorem cxI_inv {qual : Str} {scope : Scope} {fI cda cc : Addr} {A : Around} {outer : List Env} {s : Shared} {H : Hp} {h₀ : Heap} {a : V} {i : V} {u v : Value} {ocl : Obj} {vcl : Option Value} {tk : Nat}
    (hk : scope.kind = .function) (hfree : ∀ y ∈ scope.names, y.2 = .cell ∨ y.2 = .free → y.1 = "__class__") (hself : scope.names.lookup ("self" : Str) = some .local) (hpos : scope.names.lookup ("position" : Str) = some .local)
    (hd : A.handled = none) (e0 : Env0 P w K mg base A outer s H) (hcc : K.lookup cc = some ocl) (hcv : ocl.data = .cell vcl) (ra : RelV a u) (ri : RelV i v)
    (hns : h₀.Ns s.heap.objs.size (fun x => ([("self", u), ("position", v)] : List (Str × Value)).reverse.lookup x)) (keep : ∀ b o, s.heap.get? b = some o → h₀.get? b = some o) :
    Inv (cxI P w K mg base qual scope fI cda cc A outer s H) [] [some a, some i] H { s with heap := h₀, toks := tk } := by
  have hcb : base.get? cc = some ocl := e0.mod.kin _ _ hcc
  have look1 : ∀ (x : Str) (c : Addr), ([("__class__", cc)] : List (Str × Addr)).lookup x = some c → x = "__class__" ∧ c = cc := fun x c h => by
    unfold List.lookup at h
    split at h
    · rename_i q
      exact ⟨by simpa using q, (Option.some.inj h).symm⟩
    · cases h
  refine ⟨⟨e0.mod, hk, rfl, rfl, Nat.le_refl _, fun x y c h1 h2 => by rw [(look1 x c h1).1, (look1 y c h2).1], fun x hx => ?_, fun x c hx _ => Bool.noConfusion hx, fun _ => hd, Around.frames_deeper e0.frames, .inr ⟨rfl, rfl⟩, fun b hb => (nomatch hb), e0.bs, e0.bsz, fun b _ _ hb => (nomatch hb), fun b hb => (nomatch hb), e0.funs, e0.frf⟩,
    rfl, e0.bare, Un.kept keep, ⟨_, hns, fun j x y h1 h2 h3 => ?_⟩, fun x c h => ?_, e0.hok.fresh (Nat.le_refl _), fun x c h => ?_, fun p hp => (nomatch hp), e0.hok.kept keep, rfl⟩
  · have hx' : scope.names.lookup x = some .cell ∨ scope.names.lookup x = some .free := hx
    have hm : x = "__class__" := by
      rcases hx' with q | q
      · exact hfree (x, .cell) (PySem.mem_of_lookup q) (.inl rfl)
      · exact hfree (x, .free) (PySem.mem_of_lookup q) (.inr rfl)
    subst hm
    exact ⟨cc, rfl⟩
  · match j, h1, h2 with
    | 0, h1, h2 =>
      cases h1
      cases h2
      exact ⟨u, ra, .inl ⟨hself, rfl⟩⟩
    | 1, h1, h2 =>
      cases h1
      cases h2
      exact ⟨v, ri, .inl ⟨hpos, rfl⟩⟩
    | j + 2, h1, _ => cases h1
  · obtain ⟨rfl, rfl⟩ := look1 x c h
    exact ⟨vcl, ocl, keep _ _ (e0.bs _ _ hcb).1, hcv⟩
  · obtain ⟨rfl, rfl⟩ := look1 x c h
    exact (e0.bs _ _ hcb).2
/-- texts of numbers are short -/
theorem toDigitsCore_len (b : Nat) : ∀ (f n : Nat) (acc : List Char), (Nat.toDigitsCore b f n acc).length ≤ f + acc.length
  | 0, n, acc => by unfold Nat.toDigitsCore; omega
  | f + 1, n, acc => by
    unfold Nat.toDigitsCore
    dsimp only
    split
    · simp; omega
    · have := toDigitsCore_len b f (n / b) ((n % b).digitChar :: acc)
      simp at this ⊢
      omega
theorem num_len (n : Nat) : (tx (toString (n : Int))).length ≤ n + 1 := by
  unfold tx
  rw [List.length_map]
  have e : (toString (n : Int)) = Nat.repr n := rfl
  rw [e]
  unfold Nat.repr
  have h := toDigitsCore_len 10 (n + 1) n []
  simp [Nat.toDigits] at h ⊢
  exact h
abbrev scopeI : Scope := { kind := .function, names := [("self", .local), ("position", .local), ("__class__", .free), ("super", .globalImplicit), ("str", .globalImplicit)], isGenerator := false, isCoroutine := false, more := [] }
def spI (C : Addr) : Sp := fun vs H Q _ => ∃ (a : Addr) (i : Nat), vs = [.ref a, .int i] ∧ i ≤ 1000000 ∧ H a = some (exo a C none) ∧ ∀ dx, H dx = none → dx ≠ a → Q .non (upd (upd H dx (exd dx [("position", .int i)])) a (exo a C (some dx)))
section
open PySem.Calls
theorem body_init {X : Cx} {qual : Str} {st : Stmt} {C fI cc cda a : Addr} {fd : FuncData} {txt : Str} {j : Nat} {i : Nat} {p0 p1 p2 p3 p4 p5 p6 p7 p8 p9 q1 q2 q3 q4 : Pos} {body : List Stmt} {s : Shared} {H : Hp}
    (R : RF X.prog X.K qual st C fI cc cda fd) (hsc : X.env.scope = scopeI) (hN : X.N = [("self" : Str), ("position" : Str)]) (hfn : X.env.func = some fI) (hcd : X.env.code = .ref cda) (hcl : X.env.cells.lookup ("__class__" : Str) = some cc) (hc : X.calm = true)
    (hps : ((defArgs st).posonlyargs ++ (defArgs st).args).head?.map (·.arg) = some ("self" : Str)) (htxt : txt.length ≤ 1000) (msup : X.mg "super" = none) (mstr : X.mg "str" = none) (hi : i ≤ 1000000)
    (he : ∃ pl : Sem Bool, eval (.Call (.Attribute (.Call (.Name "super" p0) [] [] p1) "__init__" p2) [.BinOp (.Constant (.str txt) j p3) .Add (.Call (.Name "str" p4) [.Name "position" p5] [] p6) p7] [] p8) X.env = (do
      let ov ← attributeBase (.Call (.Name "super" p0) [] [] p1) "__init__" X.env (eval (.Call (.Name "super" p0) [] [] p1) X.env)
      standAt p2.atName
      let (f, first) ← holding [ov] (getMethod ov "__init__" pl)
      callWith p8 f first (backTo p8 (starEach [.BinOp (.Constant (.str txt) j p3) .Add (.Call (.Name "str" p4) [.Name "position" p5] [] p6) p7] X.env)) []))
    (I : Inv X [] [some (.ref a), some (.int i)] H s) (ea : H a = some (exo a C none)) :
    PySem.wpAt (model X.prog X.w) X.A (.func body X.env) (execs [.Expr (.Call (.Attribute (.Call (.Name "super" p0) [] [] p1) "__init__" p2) [.BinOp (.Constant (.str txt) j p3) .Add (.Call (.Name "str" p4) [.Name "position" p5] [] p6) p7] [] p8) p9, .Assign [.Attribute (.Name "self" q1) "position" q2] (.Name "position" q3) q4] X.env)
      (fun fl s' => fl = .next ∧ ∃ dx, H dx = none ∧ dx ≠ a ∧ Inv X [] [some (.ref a), some (.int i)] (upd (upd H dx (exd dx [("position", .int i)])) a (exo a C (some dx))) s') X.xe s := by
  obtain ⟨pl, he⟩ := he
  have hkf : X.env.scope.kind = .function := by rw [hsc]
  have kS : X.env.kindOf "super" = some .globalImplicit := by show X.env.scope.names.lookup _ = _; rw [hsc]; rfl
  have kC : X.env.kindOf "__class__" = some .free := by show X.env.scope.names.lookup _ = _; rw [hsc]; rfl
  have kF : X.env.kindOf "self" = some .local := by show X.env.scope.names.lookup _ = _; rw [hsc]; rfl
  have gS : Gl X "str" := by show X.env.scope.names.lookup _ = _; rw [hsc]; rfl
  have KX := I.kIn
  obtain ⟨oc, od, kV, doc, pm, an, ct, osl, efd, lk⟩ := R.fn
  obtain ⟨fc, fo, fvs, fsl, tf, lcd, hfile⟩ := R.file
  obtain ⟨cl, cld, csl, lcc⟩ := R.cell
  obtain ⟨ar, har, har2⟩ : ∃ ar : Arg, ((defArgs st).posonlyargs ++ (defArgs st).args).head? = some ar ∧ ar.arg = ("self" : Str) := by
    cases z : ((defArgs st).posonlyargs ++ (defArgs st).args).head? with
    | none => rw [z] at hps; cases hps
    | some ar => rw [z] at hps; exact ⟨ar, rfl, Option.some.inj hps⟩
  have vSelf : Vis X.env.scope "self" := .inl kF
  have vPos : Vis X.env.scope "position" := .inl (by rw [hsc]; rfl)
  refine PySem.ks_wpAt_execs_cons (PySem.ks_wpAt_Expr_any ?_ I.quiet rfl)
  refine PySem.ks_wpAt_MethodCall (pl := pl) ?_ he
  refine PySem.ks_wpAt_super_base kS kC (by decide) hfn (KX _ _ lk) rfl (by rw [efd]; exact har) hcd (KX _ _ lcd) rfl hfile (by simp) R.top ?_
  obtain ⟨mb, hb1, hb2⟩ := I.mod.blt
  refine PySem.W.ks_loadName_global hkf kS (Calls.loadGlobal_builtin (by rw [I.ok.glob]; exact I.mod.glob.keeps I.bk) msup (by rw [I.ok.blt]; exact hb1.keeps I.bk) ((hb2 _ (by decide)).trans (by decide +kernel)) ⟨rfl, ?_⟩)
  refine wpAny_loadName_free hkf kC hcl ⟨_, KX _ _ lcc, rfl⟩ ?_
  obtain ⟨m, hn, hl⟩ := id I.loc
  obtain ⟨us, rus, lus⟩ := hl 0 "self" (.ref a) (by rw [hN]; rfl) rfl vSelf
  obtain rfl : us = Value.ref a := rus
  have hms : m "self" = some (.ref a) := by
    rcases lus with ⟨_, z⟩ | ⟨z, _⟩
    · exact z
    · rw [kF] at z; rcases z with z | z <;> cases z
  refine wpAny_loadName_local hkf (by rw [har2]; exact kF) hn (by rw [har2]; exact hms) ?_
  obtain ⟨nm, qn, N, bs, bm, sn, sub, ab, col, dd, k0, k1, k2, k3, k5, hC, hbm⟩ := R.T.cls
  have hCh := KX _ _ hC
  refine PySem.ks_wpAny_isType_cls hCh rfl ⟨rfl, ?_⟩
  obtain ⟨t1, hx⟩ := exo_at I.hok ea
  have hsub : PySem.W.Looks (model X.prog X.w) s.heap (isSubtype (.ref C) (.ref C)) true := PySem.W.looks_mroIn KX R.mroC
  obtain ⟨hp, g, d, tk, os⟩ := s
  refine PySem.ks_wpAny_call_super hCh rfl hx rfl (fun c z => by cases z) hsub (fun h1 hso k1' => ?_)
  have I1 : L2.Inv X [] [some (.ref a), some (.int i)] H ⟨h1, g, d, tk, os⟩ := I.kept (t' := tk) k1'
  have KX1 := I1.kIn
  have hcls : PySem.W.clsIn X.K C = some { name := nm, bases := bs, mro := .ref C :: bm, ns := N, qualname := qn, hasDict := true, slotNames := sn, subclasses := sub, abstract := ab, collection := col, hasDel := false } := by unfold PySem.W.clsIn; rw [hC] <;> rfl
  have hx1 := k1' _ _ hx
  have hI1 : PySem.W.Looks (model X.prog X.w) h1 (isInstance (.ref a) (.type "ValueError")) true :=
    (show PySem.W.InstAt h1 a _ C none from ⟨hx1, rfl, rfl, trivial⟩).type.andThen (PySem.W.looks_subIn KX1 R.subVE)
  have hsup := R.sup
  unfold PySem.W.ks_superIn at hsup
  rw [hcls] at hsup
  have haC : a ≠ C := fun z => by
    rw [z] at hx
    have := Option.some.inj (hx.symm.trans hCh)
    cases this
  refine PySem.W.kxs_getMethod PySem.W.kxs_ValueError hso (PySem.W.looks_opaque KX1 R.tp) (l₀ := .ref C :: bm) (fun A Q E s k q => wpAny_bind ((PySem.W.looks_clsIn KX1 hcls) A _ E s k (wpAny_pure q))) rfl KX1 hsup hI1 haC (by decide) ?_
  have I2 : L2.Inv X [(h1.objs.size, PySem.W.kxs_mw "ValueError.__init__" a)] [some (.ref a), some (.int i)] H ⟨h1.push (PySem.W.kxs_mw "ValueError.__init__" a), g, d, tk + 1, os⟩ :=
    ClX.pin_new (s := ⟨h1, g, d, tk, os⟩) (t' := tk + 1) I1 (fun b u e => Heap.get?_push_of_some _ e) (Nat.le_refl _) (Heap.get?_push_size _ rfl) (fun v z => nomatch z)
  refine PySem.W.kxs_callWith (i := "ValueError.__init__") (x := a) rfl (evalArgs_plain (thn ((pa_cons (pe_op op_add_str pe_str (pe_callTy call_str_int gS mstr PyProof.Rows.boot_str (pa_cons (pe_var (i := 1) (x := "position") (by rw [hN]; rfl) vPos) pa_nil))) pa_nil).run p8 _ _ _ _ (fun vs H' => (∃ y, vs = [y]) ∧ H' = H) I2 ?_) fun us s3 ⟨vs, H3, I3, r3, ⟨y3, e3⟩, e4⟩ => ?_))
  · show tCons _ _ _ _ _
    have hs : (tx (toString (i : Int))).length ≤ 1000001 := Nat.le_trans (num_len i) (by omega)
    refine ⟨.int i, rfl, (i : Int), rfl, ?_, _, _, rfl, rfl, ?_, ⟨_, rfl⟩, rfl⟩
    · show i.log2 < 1920
      by_cases z : i = 0
      · subst z; decide
      · exact Nat.lt_trans ((Nat.log2_lt z).mpr (show i < 2 ^ 20 by omega)) (by decide)
    · rw [ofString_tx]
      show txt.length + (tx (toString (i : Int))).length ≤ _
      rw [sizeLine_eq]
      omega
  subst e3 e4
  cases r3 with
  | @cons _ u0 _ ur ra rw' =>
    cases rw'
    refine ⟨ClX.pin_at I3, ?_⟩
    have I4 := ClX.unpin I3
    obtain ⟨hp3, g3, d3, tk3, os3⟩ := s3
    have hmw : hp3.get? h1.objs.size = some (PySem.W.kxs_mw "ValueError.__init__" a) := ClX.pin_at I3
    have KX4 := I4.kIn
    obtain ⟨t4, hx4⟩ := exo_at I4.hok ea
    refine wpAny_call (codeAny_of_tree ?_)
    show wpAny _ X.A.in1 (callAny (.ref h1.objs.size) ⟨[u0], []⟩) _ _ _
    simp only [callAny]
    refine wpAny_bind (wpAny_load hmw ?_)
    simp only [PySem.W.kxs_mw, show (Value.type "method-wrapper" == Value.type "method" || Value.type "method-wrapper" == Value.type "builtin_function_or_method" || Value.type "method-wrapper" == Value.type "method-wrapper") = true by decide, if_true]
    refine PySem.W.KFB.if_so (by decide) ?_
    refine wpAny_bind (PySem.W.check_bound_init PySem.F.excBase_ValueError.toExcCallFacts (KX4 _ _ hC) hx4 rfl ?_)
    refine wpAny_bind (wpAny_pure (wpAny_pure ?_))
    refine ⟨plainId_quiet PySem.F.excBase_ValueError.init.plain _, codeAny_builtin PySem.F.excBase_ValueError.initEntry ?_⟩
    refine PySem.W.exc_init_tree (cls := .ref C) (t0 := t4) (dv := none) (c2 := .none) (c3 := .none) (b4 := .bool false) hx4 (by show 1 ≤ _; rw [sizeLine_eq]; decide) (fun h5 k5 x5 y5 => ?_)
    have I5 : L2.Inv X [] [some (.ref a), some (.int i)] (upd H3 a (exo a C none)) ⟨h5, g3, d3, tk3, os3⟩ := I4.write (by rw [ea]; exact True.intro) (.inl rfl) k5 ⟨_, x5⟩ (exo_ok x5)
    have eu : upd H3 a (exo a C none) = H3 := by
      funext b
      by_cases hb : b = a
      · rw [hb, upd_same, ea]
      · rw [upd_ne hb]
    rw [eu] at I5
    show PySem.wpAt _ _ _ _ _ _ _
    refine PySem.ks_wpAt_execs_cons (PySem.wpAt_of_wpAny ?_)
    refine wpAny_mono ((ps_ost (X := X) (f := "position") (o := .Name "self" q1) (e := .Name "position" q3) (pos := q4) (p' := q2) (pe_var (i := 0) (x := "self") (by rw [hN]; rfl) vSelf) (pe_var (i := 1) (x := "position") (by rw [hN]; rfl) vPos)).run [] _ _ _ ⟨fun σ' H' => σ' = [some (.ref a), some (.int i)] ∧ ∃ dx, H3 dx = none ∧ dx ≠ a ∧ H' = upd (upd H3 dx (exd dx [("position", .int i)])) a (exo a C (some dx)), fun _ _ => False, fun _ _ => False, fun _ _ => False⟩ I5 ?_) (fun fl s6 h6 => ?_) (fun _ _ y => y)
    · refine ⟨_, rfl, _, rfl, a, C, rfl, R.T, R.noPos, .inl ⟨ea, fun dx n ne => ⟨rfl, dx, n, ne, rfl⟩⟩⟩
    · cases fl with
      | next =>
        obtain ⟨σ', H', I6, e6, dx, n, ne, e7⟩ := h6
        subst e6 e7
        exact PySem.wpAt_of_wpAny (wpAny_execs_nil ⟨rfl, dx, n, ne, I6⟩)
      | brk =>
        obtain ⟨_, _, _, z⟩ := h6
        exact z.elim
      | cont =>
        obtain ⟨_, _, _, z⟩ := h6
        exact z.elim
      | ret u =>
        obtain ⟨_, _, _, _, _, z⟩ := h6
        exact z.elim
end
theorem ok_init {qual : Str} {st : Stmt} {C fI cc cda : Addr} {fd : FuncData} {txt : Str} {j : Nat} {p0 p1 p2 p3 p4 p5 p6 p7 p8 p9 q1 q2 q3 q4 : Pos}
    (R : RF P K qual st C fI cc cda fd) (hs : defScope st = scopeI)
    (hb : defBody st = [.Expr (.Call (.Attribute (.Call (.Name "super" p0) [] [] p1) "__init__" p2) [.BinOp (.Constant (.str txt) j p3) .Add (.Call (.Name "str" p4) [.Name "position" p5] [] p6) p7] [] p8) p9, .Assign [.Attribute (.Name "self" q1) "position" q2] (.Name "position" q3) q4])
    (hps : ((defArgs st).posonlyargs ++ (defArgs st).args).head?.map (·.arg) = some "self") (htxt : txt.length ≤ 1000)
    (he : ∀ env : Env, ∃ pl : Sem Bool, eval (.Call (.Attribute (.Call (.Name "super" p0) [] [] p1) "__init__" p2) [.BinOp (.Constant (.str txt) j p3) .Add (.Call (.Name "str" p4) [.Name "position" p5] [] p6) p7] [] p8) env = (do
      let ov ← attributeBase (.Call (.Name "super" p0) [] [] p1) "__init__" env (eval (.Call (.Name "super" p0) [] [] p1) env)
      standAt p2.atName
      let (f, first) ← holding [ov] (getMethod ov "__init__" pl)
      callWith p8 f first (backTo p8 (starEach [.BinOp (.Constant (.str txt) j p3) .Add (.Call (.Name "str" p4) [.Name "position" p5] [] p6) p7] env)) []))
    (msup : mg "super" = none) (mstr : mg "str" = none) : FnOk P w K mg base CX0 1 fI fd ["self", "position"] (spI C) := by
  obtain ⟨oc, od, kV, doc, pm, an, ct, osl, efd, lk⟩ := R.fn
  refine ⟨fun vs H Q E ⟨a, i, e, _⟩ => by rw [e]; rfl, fun A outer s H args us vs Q E hr e0 hbd r ⟨a, i, ev, hi, ea, q⟩ => ?_⟩
  subst ev
  obtain ⟨u, v, rfl, ru, rv⟩ : ∃ u v, us = [u, v] ∧ RelV (.ref a) u ∧ RelV (.int (i : Int)) v := by
    cases r with
    | cons h1 h2 =>
      cases h2 with
      | cons h2 h3 =>
        cases h3
        exact ⟨_, _, rfl, h1, h2⟩
  have KX : K.In s.heap := e0.mod.kin.keeps fun b o e => (e0.bs b o e).1
  have lim : s.heap.NoLimit := e0.mod.nolimit.keeps fun b o e => (e0.bs b o e).1
  subst efd
  obtain ⟨cl, cld, csl, lcc⟩ := R.cell
  refine PySem.ks_codeAny_call_defAt (fd := PySem.W.ksFn "__init__" qual (defArgs st) (defBody st) (defScope st) .none kV doc pm an (.ref cda) ct cc) (body := defBody st) hr.depth (KX _ _ lk) rfl lim (PySem.W.codeRec_of KX R.code) rfl hbd (by show ∀ x ∈ (defScope st).names, _; rw [hs]; decide) (by
    show ∀ x ∈ [(("self" : Str), u), (("position" : Str), v)], (defScope st).names.lookup x.1 = _
    rw [hs]
    intro x hx
    rcases List.mem_cons.mp hx with rfl | hx
    · rfl
    · rcases List.mem_cons.mp hx with rfl | hx
      · rfl
      · cases hx) (fun h₀ hns keep => ?_) (by show (defScope st).isCoroutine = _; rw [hs]) (by show (defScope st).isGenerator = _; rw [hs]) (by show (defScope st).kind = _; rw [hs])
  have I : Inv (cxI P w K mg base qual (defScope st) fI cda cc A outer s H) [] [some (.ref a), some (.int i)] H { s with heap := h₀, toks := s.toks + 2 } :=
    cxI_inv (by rw [hs]) (by rw [hs]; decide) (by rw [hs]; rfl) (by rw [hs]; rfl) hr.hd e0 lcc rfl ru rv hns keep
  show PySem.wpAt _ _ (.func (defBody st) (PySem.W.ksEnv qual (defScope st) s.heap.objs.size fI (.ref cda) cc)) (execs (defBody st) (PySem.W.ksEnv qual (defScope st) s.heap.objs.size fI (.ref cda) cc)) _ _ _
  rw [hb]
  refine PySem.wpAt_mono (body_init (X := cxI P w K mg base qual (defScope st) fI cda cc A outer s H) (j := j) (p0 := p0) (p1 := p1) (p2 := p2) (p3 := p3) (p4 := p4) (p5 := p5) (p6 := p6) (p7 := p7) (p8 := p8) (p9 := p9) (q1 := q1) (q2 := q2) (q3 := q3) (q4 := q4) R hs rfl rfl rfl rfl rfl hps htxt msup mstr hi ?_ I ea) (fun fl s6 h6 => ?_) (fun _ _ z => False.elim z)
  · exact he _
  obtain ⟨rfl, dx, n, ne, I6⟩ := h6
  exact ⟨.non, _, I6.os, I6.bare, I6.base, I6.hok, rfl, q dx n ne⟩
end
end DL
namespace DL
open PySem PySem.Spec L2
/-- an own exception whose __init__ keeps its argument as its position -/
structure RX (P : Program) (w : World) (K : PySem.W.Frag) (mg : Str → Option Value) (base : Heap) (C : Addr) : Prop where
  T : OexC K C
  make : ∃ (fI : Addr) (fd : FuncData), PySem.W.findIn K (.ref C) "__init__" = some (some (.ref fI)) ∧ PySem.W.typeIn K (.ref fI) = some (.type "function") ∧ FnOk P w K mg base CX0 1 fI fd ["self", "position"] (spI C) ∧ Binds K fd ["self", "position"] []
section
variable {X : Cx} {F0 : Ent} {e : Expr} {te : TD} {p pos pos' : Pos} {x : Str} {C : Addr} {k : Nat} {E' : XD}
def tdRaise (C : Addr) (E' : XD) (te : TD) : TDS := fun _ ρ S => te ρ S fun d S1 => ∃ i : Nat, d = .int i ∧ i ≤ 1000000 ∧ E' ⟨C, [("position", .int i)]⟩ S1
theorem ds_raise (R : RX X.prog X.w X.K X.mg X.base C) (B : BC X F0 (k + 2) E') (hg : Gl X x) (hm : X.mg x = some (.ref C)) (he : DE X F0 e te)
    (hdb : (x == ("__debug__" : Str)) = false := by decide) (hs : starEach (e :: []) X.env = (false, eval e X.env) :: starEach [] X.env := by rfl) (hpl : (backTo pos (starEach [] X.env)).any (·.1) = false := by rfl) :
    DS X F0 (.Raise (some (.Call (.Name x p) [e] [] pos)) none pos') (tdRaise C E' te) := by
  obtain ⟨W, tk, hW⟩ := B.take
  obtain ⟨fI, fd, i1, i2, i3, i4⟩ := R.make
  refine PS.weak (ps_raise B.calm (takes_len tk) (pmk_oex (CX := CX0) (k := 1) (ds := []) (dvs := []) R.T i1 i2 i3 (B.room.room (by omega)) i4 .nil (fun _ _ _ _ _ _ _ z => z.elim) hg hm (pa_cons he pa_nil hs) hdb hs hpl)) fun D σ H ⟨F, S, ρ, D', a, h, _⟩ => ?_
  refine EL.go a h fun v H1 F1 S1 d x1 a1 r1 ⟨i, e1, e2, q⟩ => ?_
  subst e1
  obtain rfl := r1.int_e
  refine ⟨by simp, fun ea hea => ?_⟩
  refine ⟨ea, i, rfl, e2, upd_same, fun dx n ne => ⟨rfl, dx, [("position", .int i)], upd_same, ?_, ?_, fun hl => ?_⟩⟩
  · rw [upd_ne ne, upd_same]
  · rw [upd_ne ne] at n; exact n
  · have n1 : H1 dx = none := by rw [upd_ne ne] at n; exact n
    have eH : upd (del (upd (upd (upd H1 ea (exo ea C none)) dx (exd dx [("position", .int i)])) ea (exo ea C (some dx))) ea) dx (.xd [("position", V.int i)]) = upd H1 dx (.xd [("position", V.int i)]) := by
      funext b
      by_cases hb : b = dx
      · rw [hb, upd_same, upd_same]
      · rw [upd_ne hb, upd_ne hb]
        by_cases hc : b = ea
        · rw [hc, del_same, hea]
        · rw [del_ne hc, upd_ne hc, upd_ne hb, upd_ne hc]
    rw [eH]
    have xl : Ext F1 S1 H1 F1 S1 (upd H1 dx (.xd [("position", V.int i)])) := by
      refine ⟨Same.refl _, fun b u q _ => ?_, fun _ q g => absurd g q, fun _ q => .inl q⟩
      rw [upd_ne]; exact q
      intro z; rw [z, n1] at q; cases q
    exact hW F1 S1 _ ⟨C, [("position", .int i)]⟩ (.ref C) (some dx) σ hl (a1.f0.trans xl) (a1.sr.laid n1) ⟨rfl, .inr ⟨dx, _, rfl, upd_same, ⟨V.int i, [], rfl, .int_i _, rfl⟩⟩⟩ q
def tdCallL (i : Nat) (f : Addr) (m : M) (n : Nat) (E' : XD) (t : TDs) : TD := fun ρ S Q => ρ[i]? = some (some (.ref f)) ∧ tdCall m n E' t ρ S Q
theorem de_callL {f : Addr} {fd : FuncData} {ps : List Str} {m : M} {es : List Expr} {tr : TDs} (i : Nat) (G : DF X.prog X.w X.K X.mg X.base k f fd ps m) (B : BC X F0 k E') (hk : PySem.W.keepIn X.K (.ref f) = true) (hb : Binds X.K fd ps []) (ha : DA X F0 (e :: es) tr)
    (hN : X.N[i]? = some x := by rfl) (hv : Vis X.env.scope x := by first | exact Or.inl rfl | exact Or.inr (Or.inl rfl) | exact Or.inr (Or.inr rfl)) (hdb : (x == ("__debug__" : Str)) = false := by decide) (hcd : (x == ("__classdict__" : Str)) = false := by decide)
    (he : starEach (e :: es) X.env = (false, eval e X.env) :: starEach es X.env := by rfl) (hpl : (backTo pos (starEach es X.env)).any (·.1) = false := by rfl) :
    DE X F0 (.Call (.Name x p) (e :: es) [] pos) (tdCallL i f m ps.length E' tr) := by
  obtain ⟨E, hp, hE⟩ := B.pass
  refine PE.weak (pd_callL (E := E) (i := i) G B.room hN hv hk hb hp ha hdb hcd he hpl) fun σ H Q ⟨F, S, ρ, Q', a, ⟨h0, h⟩, p⟩ => ?_
  obtain ⟨v, h1, h2⟩ := a.env.2 i _ h0
  obtain rfl := h2.ref_e
  exact ⟨h1, call_go hE ⟨F, S, ρ, Q', a, h, p⟩ fun _ _ _ z => z⟩
end
/-- the suite's ends: its name is gone behind it -/
def DEnds.unset (D : DEnds) (i : Nat) : DEnds := { nx := fun ρ S => D.nx (ρ.set i none) S, rt := D.rt, bk := fun ρ S => D.bk (ρ.set i none) S, ct := fun ρ S => D.ct (ρ.set i none) S }
/-- the exception's dict, as the suite finds it -/
def XfH (K : PySem.W.Frag) (F0 : Ent) (d : Option Addr) (fs : List (Str × D)) : Prop := ∃ dd ws, d = some dd ∧ F0.H dd = some (.xd ws) ∧ F0.S dd = none ∧ RelF K F0.F fs ws
theorem SR.xd_none {K : PySem.W.Frag} {F : Hp} {S : Store} {H : Hp} {b : Addr} {ws : List (Str × V)} (sr : SR K F S H) (h : H b = some (.xd ws)) : S b = none := by
  cases q : S b with
  | none => rfl
  | some o =>
    obtain ⟨_, ho, h2, h3⟩ := sr.obj b o q
    rw [h] at h2; cases h2
    cases o with
    | lst ds =>
      obtain ⟨_, z, _⟩ := h3
      cases z
    | dic ds =>
      obtain ⟨_, z, _⟩ := h3
      cases z
    | ins ds =>
      obtain ⟨_, _, z, _⟩ := h3
      cases z
    | dn _ _ _ =>
      obtain ⟨_, z, _⟩ := h3
      exact nomatch (show HO.xd ws = HO.ext _ from z)
section
variable {X : Cx} {x n : Str} {C : Addr} {i : Nat} {body suite : List Stmt} {b₀ : Stmt} {np pos pos' : Pos} {tb : XD → TDS} {ts : Addr → List (Str × D) → TDS} {k : Nat} {F0 : Ent}
def tdTry (C : Addr) (i n : Nat) (tb : XD → TDS) (ts : Addr → List (Str × D) → TDS) : TDS := fun D ρ S =>
  tb (fun x S' => x.C = C ∧ x.fs ≠ [] ∧ ∀ a, ts a x.fs (D.unset i) ((List.replicate n none).set i (some (.ref a))) S') D ρ S
theorem ds_try_as (i : Nat) (hs : X.stack = X.env :: X.outer) (hf : X.env.frame = some X.env.locals) (hr : Rm k X.A) (hcalm : X.calm = true) (hN : X.N.Nodup) (hi : X.N[i]? = some n) (hln : X.env.kindOf n = some .local) (hc : Names X x (.ref C)) (hx : PySem.W.exmOne X.K (.ref C) (.ref C) = some true)
    (hb : ∀ (F1 : Ent) (pn : List (Addr × Obj)) (xe : Value → Shared → Prop) (E' : XD), PassesOwn (model X.prog X.w) X.A X.env xe → BC (X.tr pn xe) F1 k E' → DSs (X.tr pn xe) F1 body (tb E'))
    (hsu : ∀ (F1 : Ent) (a : Addr) (oe : Obj) (d : Option Addr) (fs : List (Str × D)) (pn : List (Addr × Obj)), Zc (.ref C) d oe → (∃ vs, oe.data = .fields vs) → XfH X.K F1 d fs → DSs (X.suite a ((a, oe) :: pn)) F1 (b₀ :: suite) (ts a fs)) :
    DS X F0 (.Try body [.ExceptHandler (some (.Name x np)) (some n) (b₀ :: suite) pos'] [] [] pos) (tdTry C i X.N.length tb ts) := by
  refine PS.weak (ps_try_as (i := i) (c := .ref C) (Wout := fun _ _ _ _ => False) (ts := fun a cls d D σ H => ∃ F1 fs, cls = .ref C ∧ XfH X.K F1 d fs ∧ SL X.K F1 (ts a fs) D σ H)
    (tb := fun W D σ H => ∃ F1 E', (∀ F' S' H' x cls od (σ : L2.St), σ.length = X.N.length → Ext F1.F F1.S F1.H F' S' H' → SR X.K F' S' H' → ExnRel X.K F' x cls od H' → E' x S' → W cls od σ H') ∧ SL X.K F1 (tb E') D σ H)
    hs hf hN hi hln hc (fun u s' ⟨a, B, sI, pins, σ, H, cls, d, e, I, nb, up, sky, na, os, ag, w⟩ => w.elim) (fun W pn xe tk po => ?_) (fun a oe cls d pn hz hv => ?_)) fun D σ H ⟨F, S, ρ, D', a, h, p⟩ => ?_
  · exact ⟨fun pins s σ H D I ⟨F1, E', hE, h⟩ => (hb F1 pn xe E' po ⟨hr, hcalm, W, tk, hE⟩).run pins s σ H D I h⟩
  · refine ⟨fun pins s σ H D I ⟨F1, fs, e1, e2, h⟩ => ?_⟩
    subst e1
    exact (hsu F1 a oe d fs pn hz hv e2).run pins s σ H D I h
  · refine ⟨⟨F, S, H⟩, _, fun F' S' H' y cls od σ' hl z sr er q => ?_, F, S, ρ, D', ⟨Ext.refl _ _ _, a.sr, a.env⟩, h, p⟩
    obtain ⟨q1, q2, q3⟩ := q
    obtain ⟨e1, e2⟩ := er
    rw [q1] at e1; subst e1
    refine ⟨true, hx, fun _ a _ => ?_, fun z => by cases z⟩
    rcases e2 with ⟨_, z⟩ | ⟨dd, ws, e3, e4, e5⟩
    · exact absurd z q2
    · refine ⟨⟨F', S', H'⟩, y.fs, rfl, ⟨dd, ws, e3, e4, sr.xd_none e4, e5⟩, F', S', _, D'.unset i, ⟨Ext.refl _ _ _, sr, ?_⟩, q3 a, ?_⟩
      · refine RelE.set (d := .ref a) (v := .ref a) ⟨by simp [hl], fun j d q => ?_⟩ (.ref_i _) i
        rw [List.getElem?_replicate] at q
        split at q <;> cases q
      · exact ⟨fun σ1 H1 F1 S1 ρ1 y1 sr1 ev q => p.1 _ _ _ _ _ (z.trans y1) sr1 (ev.unset i none) q, fun v H1 F1 S1 d y1 sr1 rd q => p.2.1 _ _ _ _ _ (z.trans y1) sr1 rd q,
          fun σ1 H1 F1 S1 ρ1 y1 sr1 ev q => p.2.2.1 _ _ _ _ _ (z.trans y1) sr1 (ev.unset i none) q, fun σ1 H1 F1 S1 ρ1 y1 sr1 ev q => p.2.2.2 _ _ _ _ _ (z.trans y1) sr1 (ev.unset i none) q⟩
theorem ds_tryN (i ln : Nat) (hln2 : X.N.length = ln) (hs : X.stack = X.env :: X.outer) (hf : X.env.frame = some X.env.locals) (hr : Rm k X.A) (hcalm : X.calm = true) (hN : X.N.Nodup) (hi : X.N[i]? = some n) (hln : X.env.kindOf n = some .local) (hc : Names X x (.ref C)) (hx : PySem.W.exmOne X.K (.ref C) (.ref C) = some true)
    (hb : ∀ (F1 : Ent) (pn : List (Addr × Obj)) (xe : Value → Shared → Prop) (E' : XD), PassesOwn (model X.prog X.w) X.A X.env xe → BC (X.tr pn xe) F1 k E' → DSs (X.tr pn xe) F1 body (tb E'))
    (hsu : ∀ (F1 : Ent) (a : Addr) (oe : Obj) (d : Option Addr) (fs : List (Str × D)) (pn : List (Addr × Obj)), Zc (.ref C) d oe → (∃ vs, oe.data = .fields vs) → XfH X.K F1 d fs → DSs (X.suite a ((a, oe) :: pn)) F1 (b₀ :: suite) (ts a fs)) :
    DS X F0 (.Try body [.ExceptHandler (some (.Name x np)) (some n) (b₀ :: suite) pos'] [] [] pos) (tdTry C i ln tb ts) := hln2 ▸ ds_try_as i hs hf hr hcalm hN hi hln hc hx hb hsu
def tdXf (a : Addr) (fs : List (Str × D)) (f : Str) (te : TD) : TD := fun ρ S Q => te ρ S fun x S1 => x = .ref a ∧ ∃ v, fs.lookup f = some v ∧ Q v S1
theorem de_xf {a : Addr} {oe : Obj} {d : Option Addr} {fs : List (Str × D)} {pn : List (Addr × Obj)} {e : Expr} {te : TD} {f : Str} {p : Pos} (T : XfC X.K C) (hno : PySem.W.findIn X.K (.ref C) f = some none)
    (hz : Zc (.ref C) d oe) (hv : ∃ vs, oe.data = .fields vs) (hd : XfH X.K F0 d fs) (he : DE (X.suite a ((a, oe) :: pn)) F0 e te) (hb : attributeBase e f X.env (eval e X.env) = eval e X.env := by rfl) :
    DE (X.suite a ((a, oe) :: pn)) F0 (.Attribute e f p) (tdXf a fs f te) := PE.weak (pe_xf T hno hz hv he hb) fun σ H Q ⟨F, S, ρ, Q', at0, h, pp⟩ => by
  refine EL.go at0 h fun v H1 F1 S1 x x1 a1 r1 ⟨e1, u, e2, q⟩ => ?_
  subst e1
  obtain ⟨dd, ws, e3, e4, e5, e6⟩ := hd
  obtain ⟨w, l1, l2⟩ := e6.lookup e2
  exact ⟨r1.ref_e, rfl, dd, ws, w, e3, a1.f0.off dd _ e4 e5, l1, pp.of x1 a1.sr (RelD.mono a1.f0.same _ _ l2) q⟩
end
section
open PySem.W PySem.Calls
theorem find_data {K : PySem.W.Frag} {C : Addr} {od : Option Obj} {name : Str} {a g : Value} (hc : (clsIn K C).isSome = true) (ha : findIn K (.ref C) name = some (some a)) (hg : specialIn K a "__get__" = some (some g)) (ht : takesIn K a = some true) : findObj K C od name = some (.bind g a) := by
  obtain ⟨cd, hc⟩ := Option.isSome_iff_exists.mp hc
  unfold findObj; rw [hc, Option.bind_some, ha, Option.bind_some]; simp [hg, ht]
theorem classX {prog : Program} {w : World} {A : Around} {E : Value → Shared → Prop} {s : Shared} {K : PySem.W.Frag} {x D : Addr} {ox : Obj} {od : Option Obj} {Q : Option Value → Shared → Prop} (c : ExcC K D)
    (X : K.In s.heap) (I : InstAt s.heap x ox D od) (h : Q (some (.ref D)) { s with toks := s.toks + 1 }) : wpAny (model prog w) A (getAttr? (.ref x) "__class__") Q E s := by
  have hf : findObj K D od "__class__" = some (.bind (.builtin "getset_descriptor.__get__") (.builtin "object.__class__")) := find_data (by obtain ⟨cd, hc, _⟩ := any_some c.hd; rw [hc]; rfl) c.ha c.hn c.ht
  obtain ⟨hp, g, d, t, os⟩ := s
  have M0 := I.type (M := model prog w)
  have M1 := looks_findIn (M := model prog w) X c.hg
  have M2 := looks_findIn (M := model prog w) X c.hk
  have M3 := looks_find (M := model prog w) X I hf
  have sub : Looks (model prog w) hp (isInstance (.ref x) (.type "BaseException")) true := M0.andThen (looks_subIn X c.hs)
  have y2 : (Value.builtin "BaseException.__getattribute__" == Value.builtin "object.__getattribute__") = false := by decide +kernel
  have y1 : (onTheHeap (Value.ref D) && Value.builtin "BaseException.__getattribute__" == Value.builtin "object.__getattribute__") = false := by rw [y2]; rfl
  unfold getAttr? getAttrBy? getAttrBy; refine wpAny_bind (wpAny_mkText (wpAny_bind (wpAny_attempt (wpAny_holding (wpAny_bind (M0.at (wpAny_bind (M1.at ?_))))))))
  show wpAny _ _ (if (onTheHeap (Value.ref D) && Value.builtin "BaseException.__getattribute__" == Value.builtin "object.__getattribute__") = true then (_) else _) _ _ _
  rw [y1, if_neg Bool.false_ne_true]; unfold getAttrByItsOwn hookBefore; refine wpAny_bind ?_
  rw [if_pos (show onTheHeap (Value.ref D) = true by rfl)]; refine M2.at ?_; refine wpAny_bind (wpAny_attempt (wpAny_holding ?_))
  unfold callGetattribute; rw [show (false && onTheHeap (Value.builtin "BaseException.__getattribute__")) = false by rfl, if_neg Bool.false_ne_true]; unfold boundAndCalled
  rw [PySem.F.excAttr_ValueError.ga.bind (.ref x)]; refine wpAny_bind (wpAny_pure ?_)
  show wpAny _ _ (call (.builtin "BaseException.__getattribute__") [.ref x, .str "__class__" t] []) _ _ _
  refine wpAny_call (codeAny_call_builtin (PySem.F.excAttr_ValueError.ga.plain) (PySem.F.entry_bexc_ga) ?_)
  refine @check_slot (model prog w) _ _ (⟨hp, g, d, t + 1, os⟩ : Shared) "BaseException.__getattribute__" "BaseException" "__getattribute__" (.ref x) [.str "__class__" t] [] _ (by decide +kernel) (by decide +kernel) sub (PySem.F.args_bexc_ga (.ref x) (.str "__class__" t)) ?_
  unfold Builtin.«object.__getattribute__»; refine wpAny_bind (wpAny_of_eq (a := ((Value.ref x : Value), [Value.str "__class__" t])) (by first | rfl | (simp only [slotArgs]; rfl)) ?_)
  refine wpAny_bind (wpAny_pure (wpAny_bind (M0.at (wpAny_bind (M3.at ?_)))))
  show wpAny _ _ (holding [Value.builtin "object.__class__"] (call (.builtin "getset_descriptor.__get__") [.builtin "object.__class__", .ref x, .ref D] []) >>= ret) _ _ _
  refine wpAny_bind (wpAny_holding (wpAny_call (class_get (s := (⟨hp, g, d, t + 1, os⟩ : Shared)) (ox := ox) (od := od) X I c.hm ?_)))
  refine wpAny_pure ?_; show wpAny _ _ (handedOut (.ref D)) _ _ _; rw [handedOut_of (v := .ref D) rfl]
  first | exact wpAny_pure (wpAny_pure h) | exact wpAny_pure h | exact wpAny_pure (wpAny_bind (wpAny_pure (wpAny_pure h)))
theorem kitX_exc {K : PySem.W.Frag} {x D : Addr} {ox : Obj} {od : Option Obj} (c : ExcC K D) : KitX K (.ref x) (.ref D) (fun h => InstAt h x ox D od) := by
  have key : ∀ (h : Heap), K.In h → ∃ c' d' cd' sl', h.get? D = some ⟨c', d', .cls cd', sl'⟩ := fun h X => by
    obtain ⟨cdD, hcD, _⟩ := any_some c.hd
    unfold clsIn at hcD
    split at hcD
    · rename_i c' d' cd' sl' ho; exact ⟨c', d', cd', sl', X _ _ ho⟩
    · cases hcD
  refine ⟨fun M h X I => I.type, fun M h X I => ?_, fun h tp dd its n sl X htp => ?_, fun X I q => classX c X I q⟩
  · obtain ⟨c', d', cd', sl', ho⟩ := key h X
    intro A Q E s k q; unfold isType loadHead; exact wpAny_bind (wpAny_loadPart (k _ _ ho) (wpAny_pure q))
  · obtain ⟨c', d', cd', sl', ho⟩ := key h X
    refine Bool.eq_false_iff.mpr fun q => ?_
    have e : D = tp := Value.ref.inj (beq_iff_eq.mp q)
    subst e; rw [ho] at htp; cases htp
end
section
variable {X : Cx} {F0 : Ent} {C : Addr}
/-- isinstance(error, B) in an except suite, B an own class -/
def tdIsX (a : Addr) (b : Bool) (te : TD) : TD := fun ρ S Q => te ρ S fun x S1 => x = .ref a ∧ Q (.bl b) S1
theorem de_isX {a CB : Addr} {oe : Obj} {d : Option Addr} {fs : List (Str × D)} {pn : List (Addr × Obj)} {e : Expr} {te : TD} {y : Str} {p p1 p2 : Pos} {b : Bool} (c : ExcC X.K C) (hk : PySem.W.kitOne X.K (.ref C) (.ref CB) = some b)
    (hz : Zc (.ref C) d oe) (hv : ∃ vs, oe.data = .fields vs) (hd : XfH X.K F0 d fs) (he : DE (X.suite a ((a, oe) :: pn)) F0 e te) (hg : Gl X "isinstance") (hm : X.mg "isinstance" = none) (hgy : Gl X y) (hmy : X.mg y = some (.ref CB))
    (hdy : (y == ("__debug__" : Str)) = false := by decide) (hs : starEach (e :: [.Name y p2]) X.env = (false, eval e X.env) :: starEach [.Name y p2] X.env := by rfl) (hpl : (backTo p (starEach [.Name y p2] X.env)).any (·.1) = false := by rfl) :
    DE (X.suite a ((a, oe) :: pn)) F0 (.Call (.Name "isinstance" p1) (e :: [.Name y p2]) [] p) (tdIsX a b te) := by
  refine PE.weak (pe_callB (X := X.suite a ((a, oe) :: pn)) (id := "isinstance") (r := fun xs H Q => xs = [.ref a, .ref CB] ∧ (∃ dd ws, d = some dd ∧ H dd = some (.xd ws)) ∧ Q (.bl b) H) (fun pins s σ H xs us Q I r ⟨e1, ⟨dd, ws, e2, e3⟩, q⟩ => ?_) hg hm PyProof.Rows.boot_isinstance
    (pa_cons he (pa_cons (pe_glob (v := .ref CB) hgy hmy rfl hdy) pa_nil) hs) (by decide) (by decide) hs hpl) fun σ H Q ⟨F, S, ρ, Q', at0, h, pp⟩ => ?_
  · subst e1 e2
    cases r with
    | cons rx rr =>
      cases rr with
      | cons rt rr =>
        cases rr; cases rx; cases rt
        obtain ⟨hget, _⟩ := I.pin (a, oe) (List.mem_append.mpr (.inl List.mem_cons_self))
        obtain ⟨vs, hv⟩ := hv
        obtain ⟨mA, ⟨oD, esD, epD, hoD, _⟩, _⟩ := (show ObjOk X.prog X.w H s.heap dd (.xd ws) from I.hok dd _ e3)
        have J : PySem.W.InstAt s.heap a oe C (some oD) := ⟨hget, hz.1, by unfold PySem.W.notCls; rw [hv] <;> rfl, by rw [hz.2]; exact hoD⟩
        exact PySem.W.kia_one (kitX_exc c) I.kIn J hk (fun z => nomatch z) fun tk => ⟨.bl b, H, I.kept (t' := tk) fun _ _ z => z, rfl, q⟩
  · refine EL.go at0 h fun v H1 F1 S1 x x1 a1 r1 ⟨e1, q⟩ => ?_
    subst e1
    obtain rfl := r1.ref_e
    obtain ⟨dd, ws, e3, e4, e5, e6⟩ := hd
    exact ⟨rfl, ⟨dd, ws, e3, a1.f0.off dd _ e4 e5⟩, pp.of x1 a1.sr (.bl_i _) q⟩
end
section
variable {X : Cx} {F0 : Ent} {C : Addr} {e : Expr} {te : TD} {p p2 pos : Pos} {x : Str} {k : Nat}
def tdXp (te : TD) : TD := fun ρ S Q => te ρ S fun d S1 => ∃ i : Nat, d = .int i ∧ i ≤ 1000000 ∧ Q (.int i) S1
/-- C(e).position -/
theorem de_xp (R : RX X.prog X.w X.K X.mg X.base C) (T : XfC X.K C) (hno : PySem.W.findIn X.K (.ref C) "position" = some none) (hr : Room 2 X.A) (hg : Gl X x) (hm : X.mg x = some (.ref C)) (he : DE X F0 e te)
    (hdb : (x == ("__debug__" : Str)) = false := by decide) (hs : starEach (e :: []) X.env = (false, eval e X.env) :: starEach [] X.env := by rfl) (hpl : (backTo pos (starEach [] X.env)).any (·.1) = false := by rfl)
    (hb : attributeBase (.Call (.Name x p) [e] [] pos) "position" X.env (eval (.Call (.Name x p) [e] [] pos) X.env) = eval (.Call (.Name x p) [e] [] pos) X.env := by rfl) :
    DE X F0 (.Attribute (.Call (.Name x p) [e] [] pos) "position" p2) (tdXp te) := by
  obtain ⟨fI, fd, i1, i2, i3, i4⟩ := R.make
  have pk := pmk_oex (p := p) (pos := pos) (CX := CX0) (k := 1) (ds := []) (dvs := []) R.T i1 i2 i3 hr i4 .nil (fun _ _ _ _ _ _ _ z => z.elim) hg hm (pa_cons he pa_nil hs) hdb hs hpl
  refine ⟨fun pins s σ H Q I ⟨F, S, ρ, Q', a, h, pp⟩ => ?_⟩
  refine attr_of hb (wpAny_mono (pk pins s σ H (fun cls od H' => cls = .ref C ∧ ∃ dx ws i, od = some dx ∧ H' dx = some (.xd ws) ∧ ws.lookup ("position" : Str) = some (V.int i) ∧ Q (.int i) H') I (EL.go a h fun v H1 F1 S1 d x1 a1 r1 ⟨i, e1, e2, q⟩ => ?_)) (fun u s1 hu => ?_) fun _ _ z => z)
  · subst e1
    obtain rfl := r1.int_e
    refine ⟨by simp, fun ea hea => ⟨ea, i, rfl, e2, upd_same, fun dx n ne => ⟨rfl, dx, [("position", .int i)], upd_same, ?_, ?_, rfl, dx, [("position", .int i)], i, rfl, ?_, rfl, ?_⟩⟩⟩
    · rw [upd_ne ne, upd_same]
    · rw [upd_ne ne] at n; exact n
    · rw [upd_same]
    · have n1 : H1 dx = none := by rw [upd_ne ne] at n; exact n
      have eH : upd (del (upd (upd (upd H1 ea (exo ea C none)) dx (exd dx [("position", .int i)])) ea (exo ea C (some dx))) ea) dx (.xd [("position", V.int i)]) = upd H1 dx (.xd [("position", V.int i)]) := by
        funext b
        by_cases hb : b = dx
        · rw [hb, upd_same, upd_same]
        · rw [upd_ne hb, upd_ne hb]
          by_cases hc : b = ea
          · rw [hc, del_same, hea]
          · rw [del_ne hc, upd_ne hc, upd_ne hb, upd_ne hc]
      rw [eH]
      have xl : Ext F1 S1 H1 F1 S1 (upd H1 dx (.xd [("position", V.int i)])) := by
        refine ⟨Same.refl _, fun b u q _ => ?_, fun _ q g => absurd g q, fun _ q => .inl q⟩
        rw [upd_ne]; exact q
        intro z; rw [z, n1] at q; cases q
      exact pp.of (x1.trans xl) (a1.sr.laid n1) (.int_i _) q
  · obtain ⟨ea, oe, vs, sI, H', cls, od, e0, J, kk, hne, ha, hz, hd, h1, na, os, ag, r, ec, dx, ws, i, ed, hx, hl, q⟩ := hu
    subst e0 ec ed
    have J1 : L2.Inv X pins σ H' s1 := by
      have J2 := J.call (g' := s1.gens) (t' := s1.toks) (d' := s1.drawn) (h' := s1.heap) (H' := H') (ch := []) (Un.kept kk) (J.hok.kept kk) ag (fun _ z => nomatch z)
      have es : ({ sI with heap := s1.heap, gens := s1.gens, drawn := s1.drawn, toks := s1.toks } : Shared) = s1 := by
        obtain ⟨h1, g1, d1, t1, o1⟩ := s1
        obtain ⟨h2, g2, d2, t2, o2⟩ := sI
        dsimp only at os ⊢
        rw [os]
      rw [es] at J2; exact J2
    have hxx : ObjOk X.prog X.w H' s1.heap dx (.xd ws) := J1.hok dx _ hx
    obtain ⟨mA, hns, hr'⟩ := hxx
    obtain ⟨oD, ho, hlk⟩ := lookIn_ns hns
    obtain ⟨u, hu, ru⟩ := RelO.some_of (v := V.int i) (o := mA "position") (by rw [← hl]; exact hr' "position")
    have IA : PySem.W.InstAt s1.heap ea oe C (some oD) := ⟨ha, hz.1, by unfold PySem.W.notCls; rw [hd] <;> rfl, by rw [hz.2]; exact ho⟩
    exact PySem.HandSPX.exc_get J1.kIn IA T.ga T.gg T.exC (PySem.W.findObj_own T.hdC hno rfl (by rw [hlk, hu])) (handed_of ru) ⟨_, H', J1.tok _, ru, q⟩
end
end DL
namespace DL
open PySem PySem.Spec L2
section
variable (P : Program) (w : World) (K : PySem.W.Frag) (mg : Str → Option Value) (base : Heap)
/-- a def that may be called by its name -/
structure Ca (k : Nat) (x : Str) (ps : List Str) (m : M) : Prop where
  ex : ∃ (f : Addr) (fd : FuncData), DF P w K mg base k f fd ps m ∧ mg x = some (.ref f) ∧ PySem.W.keepIn K (.ref f) = true ∧ Binds K fd ps []
/-- a method -/
structure Me (k : Nat) (C : Addr) (mn : Str) (ps : List Str) (m : M) : Prop where
  ex : ∃ (f : Addr) (fd : FuncData), DF P w K mg base k f fd ps m ∧ Meth K C mn f ∧ Binds K fd ps []
  cl : Cls K C
/-- a class with an __init__ -/
structure Ma (k : Nat) (x : Str) (C : Addr) (ps : List Str) (m : M) : Prop where
  ex : ∃ (f : Addr) (fd : FuncData), DF P w K mg base k f fd ps m ∧ Mk K C f ∧ mg x = some (.ref C) ∧ Binds K fd ps []
end
section
variable {P : Program} {w : World} {K : PySem.W.Frag} {mg : Str → Option Value} {base : Heap} {k j : Nat} {x mn : Str} {ps : List Str} {m m' : M} {C : Addr}
theorem Ca.mono (G : Ca P w K mg base j x ps m) (h : j ≤ k) : Ca P w K mg base k x ps m := let ⟨f, fd, h1, h2⟩ := G.ex; ⟨f, fd, h1.mono h, h2⟩
theorem Me.mono (G : Me P w K mg base j C mn ps m) (h : j ≤ k) : Me P w K mg base k C mn ps m := let ⟨f, fd, h1, h2⟩ := G.ex; ⟨⟨f, fd, h1.mono h, h2⟩, G.cl⟩
theorem Ma.mono (G : Ma P w K mg base j x C ps m) (h : j ≤ k) : Ma P w K mg base k x C ps m := let ⟨f, fd, h1, h2⟩ := G.ex; ⟨f, fd, h1.mono h, h2⟩
end
section
variable {X : Cx} {F0 : Ent} {e o : Expr} {es : List Expr} {to te : TD} {tr : TDs} {p apos pos : Pos} {x mn : Str} {C : Addr} {k : Nat} {E' : XD} {ps : List Str} {m : M}
theorem BC.blk {s : Shared} {H : Hp} {scope : Scope} {cenv : Env} {fp : List Addr} (B : BC X F0 k E') : BC (X.blk s H scope cenv fp) F0 k noX := BC.none B.room B.calm
theorem de_ca (G : Ca X.prog X.w X.K X.mg X.base k x ps m) (B : BC X F0 k E') (hg : Gl X x) (ha : DA X F0 (e :: es) tr)
    (hdb : (x == ("__debug__" : Str)) = false := by decide) (he : starEach (e :: es) X.env = (false, eval e X.env) :: starEach es X.env := by rfl) (hpl : (backTo pos (starEach es X.env)).any (·.1) = false := by rfl) :
    DE X F0 (.Call (.Name x p) (e :: es) [] pos) (tdCall m ps.length E' tr) := by
  obtain ⟨f, fd, h1, h2, h3, h4⟩ := G.ex
  exact de_call h1 B hg h2 h3 h4 ha hdb he hpl
theorem de_ca0 (G : Ca X.prog X.w X.K X.mg X.base k x ps m) (B : BC X F0 k E') (hg : Gl X x) (hdb : (x == ("__debug__" : Str)) = false := by decide) :
    DE X F0 (.Call (.Name x p) [] [] pos) (tdCall m ps.length E' tdNil) := by
  obtain ⟨f, fd, h1, h2, h3, h4⟩ := G.ex
  exact de_call0 h1 B hg h2 h3 h4 hdb
theorem de_me {pl : Sem Bool} (ho : DE X F0 o to) (G : Me X.prog X.w X.K X.mg X.base k C mn ps m) (B : BC X F0 k E') (ha : DA X F0 (e :: es) tr)
    (hst : starEach (e :: es) X.env = (false, eval e X.env) :: starEach es X.env := by rfl) (hpl : (backTo pos (starEach es X.env)).any (·.1) = false := by rfl)
    (ht : eval (.Call (.Attribute o mn apos) (e :: es) [] pos) X.env = (do
      let ov ← eval o X.env
      standAt apos.atName
      let (f, first) ← holding [ov] (getMethod ov mn pl)
      callWith pos f first (backTo pos (starEach (e :: es) X.env)) (backToKw pos (keywordEach [] X.env))) := by rfl) : DE X F0 (.Call (.Attribute o mn apos) (e :: es) [] pos) (tdMeth C mn m ps.length E' to tr) := by
  obtain ⟨f, fd, h1, h2, h3⟩ := G.ex
  exact de_meth ho G.cl h2 h1 B h3 ha hst hpl ht
theorem de_me0 {pl : Sem Bool} (ho : DE X F0 o to) (G : Me X.prog X.w X.K X.mg X.base k C mn ps m) (B : BC X F0 k E')
    (ht : eval (.Call (.Attribute o mn apos) [] [] pos) X.env = (do
      let ov ← eval o X.env
      standAt apos.atName
      let (f, first) ← holding [ov] (getMethod ov mn pl)
      callWith pos f first (backTo pos (starEach [] X.env)) (backToKw pos (keywordEach [] X.env))) := by rfl) : DE X F0 (.Call (.Attribute o mn apos) [] [] pos) (tdMeth C mn m ps.length E' to tdNil) := by
  obtain ⟨f, fd, h1, h2, h3⟩ := G.ex
  exact de_meth0 ho G.cl h2 h1 B h3 ht
theorem de_ma (G : Ma X.prog X.w X.K X.mg X.base k x C ps m) (B : BC X F0 (k + 1) E') (hg : Gl X x) (ha : DA X F0 (e :: es) tr)
    (hdb : (x == ("__debug__" : Str)) = false := by decide) (he : starEach (e :: es) X.env = (false, eval e X.env) :: starEach es X.env := by rfl) (hpl : (backTo pos (starEach es X.env)).any (·.1) = false := by rfl) :
    DE X F0 (.Call (.Name x p) (e :: es) [] pos) (tdMake C m ps.length E' tr) := by
  obtain ⟨f, fd, h1, h2, h3, h4⟩ := G.ex
  exact de_make h2 h1 B hg h3 h4 ha hdb he hpl
/-- globals -/
theorem de_gstr {z : Str} {t : Tx} (hm : ∃ tk, X.mg x = some (.str z tk)) (hg : Gl X x) (hz : z = tS t := by first | exact ofString_tx _ | rfl) (hd : (x == ("__debug__" : Str)) = false := by decide) : DE X F0 (.Name x pos) (tdC (.str t)) := by
  obtain ⟨tk, hm⟩ := hm
  subst hz
  exact de_glob (v := .str (tS t)) hg hm ⟨_, rfl⟩ (fun _ => .str_i _) hd
theorem de_gint {i : Int} (hm : ∃ tk, X.mg x = some (.int i tk)) (hg : Gl X x) (hd : (x == ("__debug__" : Str)) = false := by decide) : DE X F0 (.Name x pos) (tdC (.int i)) := by
  obtain ⟨tk, hm⟩ := hm
  exact de_glob (v := .int i) hg hm ⟨_, rfl⟩ (fun _ => .int_i _) hd
theorem de_gref {a : Addr} (hm : X.mg x = some (.ref a)) (hg : Gl X x) (hd : (x == ("__debug__" : Str)) = false := by decide) : DE X F0 (.Name x pos) (tdC (.ref a)) :=
  de_glob (v := .ref a) hg hm rfl (fun _ => .ref_i _) hd
theorem rdS {K : PySem.W.Frag} {F : Hp} : ∀ {ts : List Tx} {zs : List Str}, zs = ts.map tS → RelDs K F (ts.map D.str) (zs.map V.str)
  | [], _, h => by subst h; unfold RelDs; rfl
  | t :: ts, _, h => by
    subst h
    unfold RelDs
    exact ⟨_, _, rfl, .str_i _, rdS rfl⟩
theorem de_gtup {zs : List Str} {ts : List Tx} {a : Addr} (hm : X.mg x = some (.ref a)) (hT : ∀ H, SqT X.K H a (zs.map V.str)) (hz : zs = ts.map tS) (hg : Gl X x) (hd : (x == ("__debug__" : Str)) = false := by decide) : DE X F0 (.Name x pos) (tdC (.tup (ts.map D.str))) :=
  de_glob (v := .ref a) hg hm rfl (fun F => .tup_i (hT F) (rdS hz)) hd
end
section
variable {X : Cx} {F0 : Ent} {e o : Expr} {t to : TD} {f : Str} {pos pos' : Pos}
theorem de_fldK (K : PySem.W.Frag) (hK : X.K = K) (he : DE X F0 e t) (hb : attributeBase e f X.env (eval e X.env) = eval e X.env := by rfl) : DE X F0 (.Attribute e f pos) (tdFldC K t f) := hK ▸ de_fld he hb
theorem ds_putFK (K : PySem.W.Frag) (hK : X.K = K) (ho : DE X F0 o to) (he : DE X F0 e t) (hs : swapsWith e (some (.Attribute o f pos')) pos.line X.env = pure false := by rfl) : DS X F0 (.Assign [.Attribute o f pos'] e pos) (tdPutF K to t f) := hK ▸ ds_putF ho he hs
theorem ds_augFK (K : PySem.W.Frag) (hK : X.K = K) {op : Operator} {g : Int → Int → Int} {rd : V → V → Hp → VK → Prop} (ho : DE X F0 o to) (he : DE X F0 e t) (hop : InOp X op rd) (hrd : ∀ i j H (Q : VK), Q (.int (g i j)) H → rd (.int i) (.int j) H Q) :
    DS X F0 (.AugAssign (.Attribute o f pos') op e pos) (tdAugF K to t f g) := hK ▸ ds_augF ho he hop hrd
end
section
variable {X : Cx} {F0 : Ent} {e : Expr} {t : TD} {pos : Pos}
def tdNeg (t : TD) : TD := fun ρ S Q => t ρ S fun d S1 => ∃ i, d = .int i ∧ Q (.int (-i)) S1
theorem de_neg (he : DE X F0 e t) : DE X F0 (.UnaryOp .USub e pos) (tdNeg t) := PE.weak (pe_un un_neg he) fun σ H Q ⟨F, S, ρ, Q', a, h, p⟩ => EL.go a h fun v H1 F1 S1 d x1 a1 r1 ⟨i, e1, q⟩ => by
  subst e1
  exact ⟨i, r1.int_e, p.of x1 a1.sr (.int_i _) q⟩
end
theorem bb_len : bootBuiltins "len" = some (.builtin "len") := (by decide +kernel)
theorem bb_max : bootBuiltins "max" = some (.builtin "max") := (by decide +kernel)
theorem bb_isinstance : bootBuiltins "isinstance" = some (.builtin "isinstance") := (by decide +kernel)
theorem bb_int : bootBuiltins "int" = some (.type "int") := (by decide +kernel)
theorem bb_str : bootBuiltins "str" = some (.type "str") := (by decide +kernel)
theorem bb_bool : bootBuiltins "bool" = some (.type "bool") := (by decide +kernel)
theorem bb_list : bootBuiltins "list" = some (.type "list") := (by decide +kernel)
theorem bb_tuple : bootBuiltins "tuple" = some (.type "tuple") := (by decide +kernel)
theorem while_ind {c : TDT} {tb : TDS} {D : DEnds} (I : Nat → Rho → Store → Prop)
    (h : ∀ n ρ S (W : Rho → Store → Prop), (∀ ρ S, I n ρ S → W ρ S) → I (n + 1) ρ S → c ρ S (fun b S1 => if b = true then tb { D with nx := W, ct := W, bk := D.nx } ρ S1 else D.nx ρ S1)) :
    (h0 : ∀ ρ S, ¬ I 0 ρ S) → ∀ (n : Nat) (ρ : Rho) (S : Store), I n ρ S → whileN c tb D n ρ S := fun h0 n => by
  induction n with
  | zero => exact fun ρ S hi => absurd hi (h0 ρ S)
  | succ n ih =>
    intro ρ S hi
    unfold whileN
    exact h n ρ S _ ih hi
theorem for_ind {g : TDG} {tb : TDS} {D : DEnds} (I : List DL.D → Rho → Store → Prop) (h0 : ∀ ρ S, I [] ρ S → D.nx ρ S)
    (h : ∀ d ds ρ S (W : Rho → Store → Prop), (∀ ρ S, I ds ρ S → W ρ S) → I (d :: ds) ρ S → g d ρ S fun ρ1 S1 => tb { D with nx := W, ct := W, bk := D.nx } ρ1 S1) :
    ∀ (ds : List DL.D) (ρ : Rho) (S : Store), I ds ρ S → forR g tb D ds ρ S
  | [], ρ, S, hi => h0 ρ S hi
  | d :: ds, ρ, S, hi => by
    unfold forR
    exact h d ds ρ S _ (fun ρ S q => for_ind I h0 h ds ρ S q) hi
theorem lc_ind {v : Nat} {tt : TDT} {te : TD} {ρ : Rho} {Q : List D → Store → Prop} (I : List D → List D → Store → Prop) (h0 : ∀ acc S, I [] acc S → Q acc S)
    (h : ∀ d ds acc S (W : List D → Store → Prop), (∀ acc S, I ds acc S → W acc S) → I (d :: ds) acc S → tt (ρ.set v (some d)) S fun b S1 => if b = true then te (ρ.set v (some d)) S1 fun y S2 => acc.length < sizeLine ∧ W (acc ++ [y]) S2 else W acc S1) :
    ∀ (ds acc : List D) (S : Store), I ds acc S → lcR v tt te ρ ds acc S Q
  | [], acc, S, hi => h0 acc S hi
  | d :: ds, acc, S, hi => by
    unfold lcR
    exact h d ds acc S (fun acc S => lcR v tt te ρ ds acc S Q) (fun acc S q => lc_ind I h0 h ds acc S q) hi
end DL
namespace DL
open PySem PySem.Spec L2
section
variable {α : Type} {xs : List α}
theorem atIn (i : Nat) : atI xs (i : Int) = xs[i]? := by
  unfold atI ixN
  rw [if_pos (by omega)]
  by_cases h : i < xs.length
  · rw [if_pos (by omega)]; simp
  · rw [if_neg (by omega), List.getElem?_eq_none (by omega)]; rfl
theorem atI_0 : atI xs 0 = xs[0]? := atIn 0
theorem atI_1 : atI xs 1 = xs[1]? := atIn 1
theorem atI_2 : atI xs 2 = xs[2]? := atIn 2
theorem atI_3 : atI xs 3 = xs[3]? := atIn 3
theorem atI_4 : atI xs 4 = xs[4]? := atIn 4
theorem atI_m1 : atI xs (-1) = xs.getLast? := by
  unfold atI ixN
  rw [if_neg (by omega)]
  cases xs with
  | nil => simp
  | cons x l =>
    rw [if_pos (by simp; omega)]
    rw [List.getLast?_eq_getElem?]
    show (x :: l)[((-1 : Int) + ((x :: l).length : Nat)).toNat]? = _
    congr 1
    simp; omega
theorem cutL_nn (a b : Nat) : cutL xs (some (a : Int)) (some (b : Int)) = (xs.drop a).take (b - a) := by
  unfold cutL
  rw [HT.sIx_nat, HT.sIx_nat]
  by_cases h : a ≤ xs.length
  · rw [Nat.min_eq_left h]
    by_cases g : b ≤ xs.length
    · rw [Nat.min_eq_left g]
    · rw [Nat.min_eq_right (by omega), List.take_of_length_le (by simp), List.take_of_length_le (by simp; omega)]
  · have e : xs.drop (min a xs.length) = [] := List.drop_eq_nil_of_le (by omega)
    rw [e, List.drop_eq_nil_of_le (show xs.length ≤ a by omega)]; simp
theorem cutL_n (a : Nat) : cutL xs (some (a : Int)) none = xs.drop a := by
  unfold cutL
  rw [HT.sIx_nat]
  show List.take (xs.length - _) _ = _
  by_cases h : a ≤ xs.length
  · rw [Nat.min_eq_left h, List.take_of_length_le (by simp)]
  · rw [Nat.min_eq_right (by omega), List.drop_eq_nil_of_le (Nat.le_refl _), List.drop_eq_nil_of_le (by omega)]; simp
theorem cutL_to (b : Nat) : cutL xs none (some (b : Int)) = xs.take b := by
  unfold cutL
  rw [HT.sIx_nat]
  show List.take (_ - 0) (xs.drop 0) = _
  by_cases g : b ≤ xs.length
  · rw [Nat.min_eq_left g]; simp
  · rw [Nat.min_eq_right (by omega)]
    simp
    rw [List.take_of_length_le (by omega)]
theorem tw_lt (p : α → Bool) : ∀ (l : List α) (j : Nat), j ≤ (l.takeWhile p).length → (j < (l.takeWhile p).length ↔ ∃ c, l[j]? = some c ∧ p c = true)
  | [], j, h => by simp
  | x :: l, j, h => by
    by_cases hx : p x = true
    · rw [List.takeWhile_cons_of_pos hx] at h ⊢
      cases j with
      | zero => simp [hx]
      | succ j =>
        have := tw_lt p l j (by simpa using h)
        simpa using this
    · rw [List.takeWhile_cons_of_neg hx] at h ⊢
      have : j = 0 := by simpa using h
      subst this
      simp [hx]
theorem tw_take (p : α → Bool) : ∀ (l : List α), l.take (l.takeWhile p).length = l.takeWhile p
  | [] => rfl
  | x :: l => by
    by_cases hx : p x = true
    · rw [List.takeWhile_cons_of_pos hx]; simp [tw_take p l]
    · rw [List.takeWhile_cons_of_neg hx]; rfl
theorem tw_le (p : α → Bool) : ∀ (l : List α), (l.takeWhile p).length ≤ l.length
  | [] => Nat.le_refl _
  | x :: l => by
    by_cases hx : p x = true
    · rw [List.takeWhile_cons_of_pos hx]; simp [tw_le p l]
    · rw [List.takeWhile_cons_of_neg hx]; simp
end
theorem gIn_str {f : Bool → Bool} {S : Store} {c : Nat} {z : Tx} {Q : D → Store → Prop} (h : Q (.bl (f (decide (c ∈ z)))) S) : gIn f S (.str [c]) (.str z) Q := ⟨c, rfl, h⟩
theorem fini {Q : D → Store → Prop} {d : D} {S : Store} (h : Q d S) : Fini Q d S := .of h
theorem sz5 {n : Nat} (h : n ≤ 1000000) : n ≤ sizeLine := by rw [sizeLine_eq]; omega
theorem gIn_sc {f : Bool → Bool} {S : Store} {c : Nat} {z : Tx} {Q : D → Store → Prop} : gIn f S (.str [c]) (.str z) Q = Q (.bl (f (decide (c ∈ z)))) S := by
  apply propext
  constructor
  · rintro ⟨c', e, q⟩
    have e' : c = c' := by simpa using e
    subst e'; exact q
  · exact fun q => ⟨c, rfl, q⟩
theorem any_str (x : Tx) : ∀ (l : List Tx), ((l.map D.str).any fun y => eqF y (.str x)) = decide (x ∈ l)
  | [] => rfl
  | y :: l => by
    rw [List.map_cons, List.any_cons, any_str x l]
    show (y == x || _) = _
    by_cases h : y = x
    · simp [h]
    · have h' : ¬ x = y := fun z => h z.symm
      simp [h, h']
theorem all_flat : ∀ (l : List Tx), (l.map D.str).all flatD = true
  | [] => rfl
  | y :: l => by rw [List.map_cons, List.all_cons, all_flat l]; rfl
theorem gIn_ts {f : Bool → Bool} {S : Store} {x : Tx} {ts : List Tx} {Q : D → Store → Prop} : gIn f S (.str x) (.tup (ts.map D.str)) Q = Q (.bl (f (decide (x ∈ ts)))) S := by
  show (flatD (.str x) = true ∧ _ ∧ _) = _
  rw [all_flat, any_str]; simp [flatD]
theorem gIn_ls {f : Bool → Bool} {S : Store} {x : Tx} {ts : List Tx} {Q : D → Store → Prop} : gIn f S (.str x) (.lst (ts.map D.str)) Q = Q (.bl (f (decide (x ∈ ts)))) S := by
  show (flatD (.str x) = true ∧ _ ∧ _) = _
  rw [all_flat, any_str]; simp [flatD]
theorem gIn_t2 {f : Bool → Bool} {S : Store} {x a b : Tx} {Q : D → Store → Prop} : gIn f S (.str x) (.tup [.str a, .str b]) Q = Q (.bl (f (decide (x ∈ [a, b])))) S := gIn_ts (ts := [a, b])
theorem gIn_l2 {f : Bool → Bool} {S : Store} {x a b : Tx} {Q : D → Store → Prop} : gIn f S (.str x) (.lst [.str a, .str b]) Q = Q (.bl (f (decide (x ∈ [a, b])))) S := gIn_ls (ts := [a, b])
theorem gIn_l4 {f : Bool → Bool} {S : Store} {x a b c d : Tx} {Q : D → Store → Prop} : gIn f S (.str x) (.lst [.str a, .str b, .str c, .str d]) Q = Q (.bl (f (decide (x ∈ [a, b, c, d])))) S := gIn_ls (ts := [a, b, c, d])
theorem sl_0 {α : Type} : (([] : List α).length ≤ sizeLine) = True := eq_true (Nat.zero_le _)
theorem sl_1 {α : Type} {a : α} : ([a].length ≤ sizeLine) = True := eq_true (sz5 (show 1 ≤ _ by omega))
theorem sl_2 {α : Type} {a b : α} : ([a, b].length ≤ sizeLine) = True := eq_true (sz5 (show 2 ≤ _ by omega))
theorem sl_3 {α : Type} {a b c : α} : ([a, b, c].length ≤ sizeLine) = True := eq_true (sz5 (show 3 ≤ _ by omega))
theorem sl_4 {α : Type} {a b c d : α} : ([a, b, c, d].length ≤ sizeLine) = True := eq_true (sz5 (show 4 ≤ _ by omega))
theorem sl_5 {α : Type} {a b c d e : α} : ([a, b, c, d, e].length ≤ sizeLine) = True := eq_true (sz5 (show 5 ≤ _ by omega))
theorem lm_0 {α β : Type} {b : β} : (([] : List α).length + 1 = [b].length) = True := eq_true rfl
theorem lm_1 {α β : Type} {a : α} {b b' : β} : ([a].length + 1 = [b, b'].length) = True := eq_true rfl
theorem lm_2 {α β : Type} {a a' : α} {b b' b2 : β} : ([a, a'].length + 1 = [b, b', b2].length) = True := eq_true rfl
theorem ln_0 {α β : Type} : (([] : List α).length = ([] : List β).length) = True := eq_true rfl
theorem ln_1 {α β : Type} {a : α} {b : β} : ([a].length = [b].length) = True := eq_true rfl
theorem ln_2 {α β : Type} {a a' : α} {b b' : β} : ([a, a'].length = [b, b'].length) = True := eq_true rfl
theorem ln_3 {α β : Type} {a a' a2 : α} {b b' b2 : β} : ([a, a', a2].length = [b, b', b2].length) = True := eq_true rfl
theorem icE' (a b : Nat) : ((a : Int) = (b : Int)) = (a = b) := propext ⟨fun h => Int.ofNat.inj h, fun h => h ▸ rfl⟩
theorem icast (a b : Nat) : (a : Int) + (b : Int) = ((a + b : Nat) : Int) := rfl
theorem icast1 (a : Nat) : (a : Int) + 1 = ((a + 1 : Nat) : Int) := rfl
theorem icast2 (a : Nat) : (a : Int) + 2 = ((a + 2 : Nat) : Int) := rfl
theorem icast3 (a : Nat) : (a : Int) + 3 = ((a + 3 : Nat) : Int) := rfl
theorem icE12 (a : Nat) : ((a : Int) = 12) = (a = 12) := icE' a 12
theorem icE200 (a : Nat) : ((a : Int) = 200) = (a = 200) := icE' a 200
theorem icS1 (a : Nat) : ((a + 1 : Nat) : Int) - 1 = (a : Int) := by omega
theorem icastL (a b : Nat) : ((a : Int) < (b : Int)) = (a < b) := propext Int.ofNat_lt
theorem icastE (a b : Nat) : ((a : Int) = (b : Int)) = (a = b) := propext ⟨fun h => Int.ofNat.inj h, fun h => h ▸ rfl⟩
theorem icastZ (a : Nat) : ((a : Int) = 0) = (a = 0) := icastE a 0
theorem ff (p q : Prop) : (if false = true then p else q) = q := if_neg Bool.false_ne_true
theorem tt' (p q : Prop) : (if true = true then p else q) = p := if_pos rfl
theorem dt {p : Prop} [Decidable p] (h : p) : decide p = true := decide_eq_true h
theorem df {p : Prop} [Decidable p] (h : ¬ p) : decide p = false := decide_eq_false h
/-- a cut between statements -/
theorem seq_cut {t u : TDS} {D : DEnds} {ρ : Rho} {S : Store} (I : Rho → Store → Prop) (h1 : ∀ Rest : Rho → Store → Prop, (∀ ρ S, I ρ S → Rest ρ S) → t { D with nx := Rest } ρ S) (h2 : ∀ ρ S, I ρ S → u D ρ S) : tdSeq t u D ρ S := h1 _ h2
end DL
namespace DL
open PySem PySem.Spec L2
section
variable {X : Cx} {F0 : Ent} {a b e o i : Expr} {ta tb t to ti te : TD} {pos apos cpos : Pos} {x : Str} {p : Pos}
def tdPop (to : TD) : TD := fun ρ S Q => to ρ S fun x S1 => ∃ a ds d, x = .ref a ∧ S1 a = some (.lst ds) ∧ ds[ds.length - 1]? = some d ∧ Q d (sup S1 a (.lst ds.dropLast))
theorem RelDs.dropLast {K : PySem.W.Frag} {F : Hp} : ∀ {ds : List D} {vs : List V}, RelDs K F ds vs → RelDs K F ds.dropLast vs.dropLast
  | [], vs, h => by
    obtain rfl : vs = [] := by unfold RelDs at h; exact h
    exact .nil
  | [d], vs, h => by
    obtain ⟨v, rfl, _⟩ := rds1 h
    exact .nil
  | d :: d2 :: ds, vs, h => by
    unfold RelDs at h
    obtain ⟨v, r, rfl, h1, h2⟩ := h
    have h3 := RelDs.dropLast h2
    unfold RelDs at h2
    obtain ⟨v2, r2, rfl, h4, h5⟩ := h2
    exact .cons h1 h3
theorem de_pop (ho : DE X F0 o to) (hbase : attributeBase o "pop" X.env (eval o X.env) = eval o X.env := by rfl) (hline : (apos.endLine == cpos.line) = true := by rfl) :
    DE X F0 (.Call (.Attribute o "pop" apos) [] [] cpos) (tdPop to) :=
  PE.weak (pe_bm0 PySem.F.plainAttrs_list PySem.F.slot_list_pop PySem.F.type_list_pop mt_pop ho hbase hline) fun σ H Q ⟨F, S, ρ, Q', at0, h, p⟩ => by
    refine EL.go at0 h fun v H1 F1 S1 d x1 a1 r1 ⟨b, ds, y, e1, e2, e3, q⟩ => ?_
    subst e1
    obtain ⟨vs, h1, h2⟩ := a1.sr.lst e2
    obtain ⟨w, k1, k2⟩ := h2.get e3
    rw [r1.ref_e]
    refine ⟨.inl ⟨rfl, vs, .of h1⟩, b, vs, w, rfl, rfl, h1, by rw [h2.length]; exact k1, ?_⟩
    exact p.of (x1.trans (a1.sr.ext_write e2)) (a1.sr.write (o := .lst _) e2 ⟨_, rfl, RelDs.dropLast h2⟩) k2 q
theorem valD_no {K : PySem.W.Frag} {F : Hp} : ∀ {kvs : List (DK × D)} {ws : List (Key × V)} {k : DK}, RelF K F (kmap kvs) ws → valD kvs k = none → valV ws (kk k) = none
  | [], ws, k, h, e => by
    obtain rfl : ws = [] := h
    rfl
  | (k', d) :: r, ws, k, h, e => by
    obtain ⟨v, q, rfl, h1, h2⟩ := h
    unfold valD at e
    by_cases hk : k' = k
    · rw [if_pos hk] at e; cases e
    · rw [if_neg hk] at e
      rw [valV_neg (fun z => hk (kk_inj z))]
      exact valD_no h2 e
def tdGet2 (to ti te : TD) : TD := fun ρ S Q => to ρ S fun x S1 => ∃ a kvs, x = .ref a ∧ S1 a = some (.dic kvs) ∧ ti ρ S1 fun y S2 => te ρ S2 fun z S3 => ∃ kvs' k, S3 a = some (.dic kvs') ∧ y = kD k ∧ Q ((valD kvs' k).getD z) S3
theorem de_get2 (hu : X.A.units + 1 < cLine) (ho : DE X F0 o to) (hi : DE X F0 i ti) (he : DE X F0 e te)
    (m1 : attributeBase o "get" X.env (eval o X.env) = eval o X.env := by rfl)
    (m2 : ((backTo cpos (starEach [i, e] X.env)).all (fun x => !x.1) && (backToKw cpos (keywordEach [] X.env)).all (fun x => x.1.isSome)
      && decide (([i, e] : List Expr).length + ([] : List Keyword).length + (if ([] : List Keyword).isEmpty then 0 else 1) < 30)) = true := by rfl)
    (m3 : (apos.endLine == cpos.line) = true := by rfl) (m4 : backTo cpos (starEach [i, e] X.env) = [(false, eval i X.env), (false, eval e X.env)] := by rfl) :
    DE X F0 (.Call (.Attribute o "get" apos) [i, e] [] cpos) (tdGet2 to ti te) :=
  PE.weak (pe_dget2 hu ho hi he ⟨m1, m2, m3, m4⟩) fun σ H Q ⟨F, S, ρ, Q', at0, h, p⟩ => EL.go at0 h fun v1 H1 F1 S1 d1 x1 a1 r1 ⟨b, kvs0, e1, e2, q1⟩ => by
    subst e1
    obtain ⟨ws0, h01, h02⟩ := a1.sr.dic e2
    refine ⟨b, r1.ref_e, .inl ⟨_, .inl h01⟩, EL.go a1 q1 fun v2 H2 F2 S2 d2 x2 a2 r2 q2 => EL.go a2 q2 fun v3 H3 F3 S3 d3 x3 a3 r3 ⟨kvs, k, e3, e4, q⟩ => ?_⟩
    subst e4
    obtain ⟨ws, h1, h2⟩ := a3.sr.dic e3
    refine ⟨valV ws (kk k), ?_, ?_⟩
    · rw [kD_rel r2]
      exact DGet.k h1
    · cases z : valD kvs k with
      | none =>
        rw [z] at q
        rw [valD_no h2 z]
        exact p.of ((x1.trans x2).trans x3) a3.sr r3 q
      | some d =>
        rw [z] at q
        obtain ⟨w, h3, h4⟩ := valD_rel h2 z
        rw [h3]
        exact p.of ((x1.trans x2).trans x3) a3.sr h4 q
/-- a whole number or a text as a value -/
def scV : D → Option V
  | .int i => some (.int i)
  | .str x => some (.str (tS x))
  | _ => none
theorem scV_rel {K : PySem.W.Frag} {F : Hp} {d : D} {v : V} (h : scV d = some v) : RelD K F d v := by
  cases d with
  | int i => cases h; exact .int_i _
  | str x => cases h; exact .str_i _
  | _ => cases h
def TbV (K : PySem.W.Frag) (a : Addr) (x : Tx) : Option D → Prop
  | none => PySem.W.nsIn K a (tS x) = some none
  | some d => ∃ u v, PySem.W.nsIn K a (tS x) = some (some u) ∧ scV d = some v ∧ RelV v u
/-- the dict at a, as far as kvs tells it -/
structure Tb (K : PySem.W.Frag) (w : World) (a : Addr) (kvs : List (Tx × Option D)) : Prop where
  kd : ∃ es n, KDict K w a es n
  val : ∀ x o, kvs.lookup x = some o → TbV K a x o
def tdKGet (kvs : List (Tx × Option D)) (ti : TD) : TD := fun ρ S Q => ti ρ S fun y S1 => ∃ x d, y = .str x ∧ kvs.lookup x = some (some d) ∧ Q d S1
def tdKGet2 (kvs : List (Tx × Option D)) (ti te : TD) : TD := fun ρ S Q => ti ρ S fun y S1 => te ρ S1 fun z S2 => ∃ x o, y = .str x ∧ kvs.lookup x = some o ∧ Q (o.getD z) S2
theorem de_kget {kvs : List (Tx × Option D)} {ad : Addr} (T : Tb X.K X.w ad kvs) (hg : Gl X x) (hm : X.mg x = some (.ref ad)) (hi : DE X F0 i ti) (hs : NoSl i := by exact fun _ _ => rfl) (hdb : (x == ("__debug__" : Str)) = false := by decide) :
    DE X F0 (.Subscript (.Name x p) i pos) (tdKGet kvs ti) := by
  obtain ⟨es, n, D⟩ := T.kd
  refine ⟨fun pins s σ H Q I h => ?_⟩
  refine subD_of PySem.F.slot_dict_getitem.lookup hs (ld_glob I hg hm (thn (hi.run pins s σ H (fun v H1 => ∃ u0 v0 z, v = .str z ∧ PySem.W.nsIn X.K ad z = some (some u0) ∧ RelV v0 u0 ∧ Q v0 H1) I ?_) fun iv s2 ⟨y, H2, I2, ry, u0, v0, z, ey, hn, hr, q⟩ => ?_) hdb)
  · obtain ⟨F, S, ρ, Q', at0, h, pp⟩ := h
    refine EL.go at0 h fun v H1 F1 S1 d x1 a1 r1 ⟨y, d2, e1, e2, q⟩ => ?_
    subst e1
    obtain ⟨u, v0, e3, e4, e5⟩ := T.val _ _ e2
    exact ⟨u, v0, tS y, r1.str_e, e3, e5, pp.of x1 a1.sr (scV_rel e4) q⟩
  · subst ey
    obtain ⟨t, rfl⟩ := ry
    exact ⟨kd_type D I2, wpAny_getItem_of (PySem.strKind_is X.prog X.w z t) (PySem.W.mapOf_K (prog := X.prog) I2.kIn D.at_ D.lit) (PySem.W.find_K D.at_ hn) ⟨v0, H2, I2.tok _, hr, q⟩⟩
theorem de_kget2 {kvs : List (Tx × Option D)} {ad : Addr} (T : Tb X.K X.w ad kvs) (hg : Gl X x) (hm : X.mg x = some (.ref ad)) (hi : DE X F0 i ti) (he : DE X F0 e te) (hdb : (x == ("__debug__" : Str)) = false := by decide)
    (m1 : attributeBase (.Name x p) "get" X.env (eval (.Name x p) X.env) = eval (.Name x p) X.env := by rfl)
    (m2 : ((backTo cpos (starEach [i, e] X.env)).all (fun x => !x.1) && (backToKw cpos (keywordEach [] X.env)).all (fun x => x.1.isSome)
      && decide (([i, e] : List Expr).length + ([] : List Keyword).length + (if ([] : List Keyword).isEmpty then 0 else 1) < 30)) = true := by rfl)
    (m3 : (apos.endLine == cpos.line) = true := by rfl) (m4 : backTo cpos (starEach [i, e] X.env) = [(false, eval i X.env), (false, eval e X.env)] := by rfl) :
    DE X F0 (.Call (.Attribute (.Name x p) "get" apos) [i, e] [] cpos) (tdKGet2 kvs ti te) := by
  obtain ⟨es, n, D⟩ := T.kd
  refine ⟨fun pins s σ H Q I h => ?_⟩
  refine wpAny_Call_method m1 m2 m3 PySem.F.plainAttrs_dict PySem.F.slot_dict_get PySem.F.type_dict_get (ld_glob I hg hm ?_ hdb)
  refine ⟨kd_type D I, fun b e => by cases e; exact ⟨_, I.kIn _ _ D.at_, rfl⟩, ?_⟩
  rw [m4]
  obtain ⟨F, S, ρ, Q', at0, h, pp⟩ := h
  refine Calls.callWith_builtin rfl (Calls.evalArgs_plain (Calls.spliced_cons (thn (hi.run pins s σ H (fun v H1 => ∃ F1 S1 y, Ext F S H F1 S1 H1 ∧ At X.K F0 F1 S1 H1 ρ σ ∧ RelD X.K F1 y v ∧ te ρ S1 fun z S2 => ∃ x o, y = .str x ∧ kvs.lookup x = some o ∧ Q' (o.getD z) S2) I
    (EL.go at0 h fun v H1 F1 S1 d x1 a1 r1 q => ⟨F1, S1, d, x1, a1, r1, q⟩)) fun iv s1 ⟨y, H1, I1, ry, F1, S1, yd, x1, a1, r1, q1⟩ => Calls.spliced_cons (thn (he.run pins s1 σ H1 (fun v H2 => ∃ F2 S2 z, Ext F1 S1 H1 F2 S2 H2 ∧ At X.K F0 F2 S2 H2 ρ σ ∧ RelD X.K F2 z v ∧
      ∃ x o, yd = .str x ∧ kvs.lookup x = some o ∧ Q' (o.getD z) S2) I1 (EL.go a1 q1 fun v H2 F2 S2 d x2 a2 r2 q => ⟨F2, S2, d, x2, a2, r2, q⟩)) fun fv s2 ⟨z, H2, I2, rz, F2, S2, zd, x2, a2, r2, tx0, o, e1, e2, q2⟩ => Calls.spliced_nil ?_))))
  subst e1
  obtain rfl := r1.str_e
  obtain ⟨t, rfl⟩ := ry
  refine call_meetsIn PySem.F.slot_dict_get (kd_type D I2) PySem.F.entry_dict_get (PySem.F.args_dict_get_3 _ _ _) (meets_dict_get_default (strKind X.prog X.w) ad (k := tS tx0) (PySem.strKind_is X.prog X.w (tS tx0) t) D.low fv) ⟨_, PySem.W.mapOf_K (prog := X.prog) I2.kIn D.at_ D.lit, ?_⟩
  have hv := T.val _ _ e2
  cases o with
  | none =>
    have hv : PySem.W.nsIn X.K ad (tS tx0) = some none := hv
    show EP X pins σ Q ((findBy Value.isStrOf es (tS tx0)).getD fv) _
    rw [PySem.W.find_K D.at_ hv]
    exact ⟨z, H2, I2.tok _, rz, pp.of (x1.trans x2) a2.sr r2 q2⟩
  | some d =>
    obtain ⟨u, v0, e3, e4, e5⟩ := hv
    show EP X pins σ Q ((findBy Value.isStrOf es (tS tx0)).getD fv) _
    rw [PySem.W.find_K D.at_ e3]
    exact ⟨v0, H2, I2.tok _, e5, pp.of (x1.trans x2) a2.sr (scV_rel e4) q2⟩
end
end DL
namespace DL
open PySem PySem.Spec L2
section
variable {X : Cx} {x : Str} {C : Addr} {body suite : List Stmt} {b₀ : Stmt} {np pos pos' : Pos} {tb : XD → TDS} {ts : TDS} {k : Nat} {F0 : Ent}
def tdTryO (C : Addr) (n : Nat) (tb : XD → TDS) (ts : TDS) : TDS := fun D ρ S => tb (fun x S' => x.C = C ∧ ts D (List.replicate n none) S') D ρ S
theorem ds_tryO (ln : Nat) (hln2 : X.N.length = ln) (hs : X.stack = X.env :: X.outer) (hf : X.env.frame = some X.env.locals) (hr : Rm k X.A) (hcalm : X.calm = true) (hc : Names X x (.ref C)) (hx : PySem.W.exmOne X.K (.ref C) (.ref C) = some true)
    (hb : ∀ (F1 : Ent) (pn : List (Addr × Obj)) (xe : Value → Shared → Prop) (E' : XD), PassesOwn (model X.prog X.w) X.A X.env xe → BC (X.tr pn xe) F1 k E' → DSs (X.tr pn xe) F1 body (tb E'))
    (hsu : ∀ (F1 : Ent) (a : Addr) (oe : Obj) (pn : List (Addr × Obj)), DSs (X.suite a ((a, oe) :: pn)) F1 (b₀ :: suite) ts) :
    DS X F0 (.Try body [.ExceptHandler (some (.Name x np)) none (b₀ :: suite) pos'] [] [] pos) (tdTryO C ln tb ts) := by
  subst hln2
  refine PS.weak (ps_try_only (c := .ref C) (Wout := fun _ _ _ _ => False) (ts := fun a cls d D σ H => ∃ F1, SL X.K F1 ts D σ H)
    (tb := fun W D σ H => ∃ F1 E', (∀ F' S' H' x cls od (σ : L2.St), σ.length = X.N.length → Ext F1.F F1.S F1.H F' S' H' → SR X.K F' S' H' → ExnRel X.K F' x cls od H' → E' x S' → W cls od σ H') ∧ SL X.K F1 (tb E') D σ H)
    hs hf hc (fun u s' ⟨a, B, sI, pins, σ, H, cls, d, e, I, nb, up, sky, na, os, ag, w⟩ => w.elim) (fun W pn xe tk po => ?_) (fun a oe cls d pn hz hv => ?_)) fun D σ H ⟨F, S, ρ, D', a, h, p⟩ => ?_
  · exact ⟨fun pins s σ H D I ⟨F1, E', hE, h⟩ => (hb F1 pn xe E' po ⟨hr, hcalm, W, tk, hE⟩).run pins s σ H D I h⟩
  · exact ⟨fun pins s σ H D I ⟨F1, h⟩ => (hsu F1 a oe pn).run pins s σ H D I h⟩
  · refine ⟨⟨F, S, H⟩, _, fun F' S' H' y cls od σ' hl z sr er q => ?_, F, S, ρ, D', ⟨Ext.refl _ _ _, a.sr, a.env⟩, h, p⟩
    obtain ⟨q1, q3⟩ := q
    obtain ⟨e1, e2⟩ := er
    rw [q1] at e1; subst e1
    refine ⟨true, hx, fun _ a _ => ⟨⟨F', S', H'⟩, F', S', _, D', ⟨Ext.refl _ _ _, sr, by simp [hl], fun j d q => ?_⟩, q3, p.ext z⟩, fun z => by cases z⟩
    rw [List.getElem?_replicate] at q
    split at q <;> cases q
end
def setD : Rho → List Nat → List D → Rho
  | ρ, v :: vs, d :: ds => setD (ρ.set v (some d)) vs ds
  | ρ, _, _ => ρ
def setV : L2.St → List Nat → List V → L2.St
  | σ, v :: vs, d :: ds => setV (σ.set v (some d)) vs ds
  | σ, _, _ => σ
def gNames : List Nat → TGs
  | [] => gNil
  | v :: vs => gCons (gName v) (gNames vs)
theorem gNames_go : ∀ {vs : List Nat} {xs : List V} {σ : L2.St} {H : Hp} {Q : L2.St → Hp → Prop}, xs.length = vs.length → Q (setV σ vs xs) H → gNames vs xs σ H Q
  | [], [], _, _, _, _, q => ⟨rfl, q⟩
  | v :: vs, x :: xs, σ, H, Q, h, q => ⟨x, xs, rfl, gNames_go (vs := vs) (xs := xs) (σ := σ.set v (some x)) (by simpa using h) q⟩
theorem wipe_set {σ : L2.St} {v : Nat} {o : Option V} : ∀ {vs : List Nat}, v ∈ vs → wipe (σ.set v o) vs = wipe σ vs
  | u :: vs, h => by
    show (wipe (σ.set v o) vs).set u none = (wipe σ vs).set u none
    by_cases e : v ∈ vs
    · rw [wipe_set e]
    · have e2 : v = u := by
        rcases List.mem_cons.mp h with z | z
        · exact z
        · exact absurd z e
      subst e2
      have key : ∀ ws : List Nat, ¬ v ∈ ws → wipe (σ.set v o) ws = (wipe σ ws).set v o := by
        intro ws
        induction ws with
        | nil => intro _; rfl
        | cons w ws ih =>
          intro hw
          have h1 : ¬ v = w := fun z => hw (by rw [z]; exact List.mem_cons_self)
          have h2 : ¬ v ∈ ws := fun z => hw (List.mem_cons_of_mem _ z)
          show (wipe (σ.set v o) ws).set w none = ((wipe σ ws).set w none).set v o
          rw [ih h2, List.set_comm _ _ h1]
      rw [key vs e, List.set_set]
theorem wipe_setV : ∀ {us : List Nat} {xs : List V} {σ : L2.St} {vs : List Nat}, (∀ u ∈ us, u ∈ vs) → wipe (setV σ us xs) vs = wipe σ vs
  | [], _, _, _, _ => rfl
  | _ :: _, [], _, _, _ => rfl
  | u :: us, x :: xs, σ, vs, h => by
    show wipe (setV (σ.set u (some x)) us xs) vs = _
    rw [wipe_setV fun w hw => h w (List.mem_cons_of_mem _ hw), wipe_set (h u List.mem_cons_self)]
theorem wipe_wipe (σ : L2.St) (vs : List Nat) : wipe (wipe σ vs) vs = wipe σ vs := by
  have key : ∀ (ws : List Nat), (∀ w ∈ ws, w ∈ vs) → wipe (wipe σ ws) vs = wipe σ vs := by
    intro ws
    induction ws with
    | nil => intro _; rfl
    | cons w ws ih =>
      intro h
      show wipe ((wipe σ ws).set w none) vs = _
      rw [wipe_set (h w List.mem_cons_self), ih fun u hu => h u (List.mem_cons_of_mem _ hu)]
  exact key vs fun w h => h
/-- the names' old values are not to be seen -/
def unsetD : Rho → List Nat → Rho
  | ρ, [] => ρ
  | ρ, v :: vs => (unsetD ρ vs).set v none
theorem RelE.wipe {K : PySem.W.Frag} {F : Hp} {ρ : Rho} {σ : L2.St} (h : RelE K F ρ σ) : ∀ vs : List Nat, RelE K F (unsetD ρ vs) (wipe σ vs)
  | [] => h
  | v :: vs => (RelE.wipe h vs).unset v none
theorem RelE.setD {K : PySem.W.Frag} {F : Hp} : ∀ {vs : List Nat} {ds : List D} {xs : List V} {ρ : Rho} {σ : L2.St}, RelE K F ρ σ → RelDs K F ds xs → RelE K F (setD ρ vs ds) (setV σ vs xs)
  | [], _, _, _, _, h, _ => by
    unfold DL.setD setV
    exact h
  | v :: vs, [], xs, _, _, h, r => by
    obtain rfl : xs = [] := by unfold RelDs at r; exact r
    exact h
  | v :: vs, d :: ds, xs, ρ, σ, h, r => by
    unfold RelDs at r
    obtain ⟨y, q, rfl, r1, r2⟩ := r
    exact RelE.setD (vs := vs) (h.set r1 v) r2
def lcT (vs : List Nat) (tt : TDT) (te : TD) (ρ : Rho) : List D → List D → Store → (List D → Store → Prop) → Prop
  | [], acc, S, Q => Q acc S
  | d :: ds, acc, S, Q => ∃ xs, d = .tup xs ∧ xs.length = vs.length ∧ tt (setD (unsetD ρ vs) vs xs) S fun b S1 => if b = true then te (setD (unsetD ρ vs) vs xs) S1 fun y S2 => acc.length < sizeLine ∧ lcT vs tt te ρ ds (acc ++ [y]) S2 Q else lcT vs tt te ρ ds acc S1 Q
def tdLcT (ti : TDI) (vs : List Nat) (tt : TDT) (te : TD) : TD := fun ρ S Q => ti ρ S fun ds S1 => lcT vs tt te ρ ds [] S1 fun ys S2 => Q (.lst ys) S2
theorem lcT_go {F0 : Ent} {ti : TDI} {vs : List Nat} {tt : TDT} {te : TD} {K : PySem.W.Frag} {σ : L2.St} {H : Hp} {Q : VK} (h : EL K F0 (tdLcT ti vs tt te) σ H Q) :
    tLc (IL K F0 ti) (gTup K vs.length (gNames vs)) (TL K F0 tt) (EL K F0 te) vs σ H Q := by
  obtain ⟨F, S, ρ, Q', a, h, p⟩ := h
  refine IL.go a h fun J H1 F1 S1 ds x1 a1 it q1 D hD => ?_
  refine ⟨fun i m H => m = ds.length - i ∧ i ≤ ds.length ∧ ∃ F S acc us, Ext F1 S1 (upd H1 D (.lst us)) F S H ∧ SR K F S H ∧ RelDs K F acc us ∧ lcT vs tt te ρ (ds.drop i) acc S fun ys S2 => Q' (.lst ys) S2,
    ⟨ds.length, by omega, Nat.zero_le _, F1, S1, [], [], Ext.refl _ _ _, a1.sr.laid hD, .nil, q1⟩, ?_⟩
  rintro i m H2 ⟨rfl, hi, F2, S2, acc, us, x2, sr2, racc, q2⟩
  have sm : Same F1 H2 := x2.same.trans sr2.fro
  obtain ⟨nF, nS, hH⟩ := x2.laid_none a1.sr hD
  by_cases hlt : i < ds.length
  · refine .inr ⟨it.go i H2 sm hlt, fun H => ∃ F S acc us, Ext F1 S1 (upd H1 D (.lst us)) F S H ∧ SR K F S H ∧ RelDs K F acc us ∧ lcT vs tt te ρ (ds.drop (i + 1)) acc S fun ys S2 => Q' (.lst ys) S2, fun H' n => ⟨ds.length - (i + 1), by omega, rfl, hlt, n⟩, fun x H' y => ?_⟩
    obtain ⟨F3, d, x3, sr3, hd, rd⟩ := it.yld i x H2 H' F2 S2 x2.same sr2 y hlt
    have e : ds.drop i = d :: ds.drop (i + 1) := by
      rw [List.drop_eq_getElem_cons hlt]
      congr 1
      rw [List.getElem?_eq_getElem hlt] at hd
      exact Option.some.inj hd
    rw [e] at q2
    obtain ⟨xs, e2, e3, q2⟩ := q2
    subst e2
    have x13 : Ext F1 S1 (upd H1 D (.lst us)) F3 S2 H' := x2.trans x3
    obtain ⟨b, ws, rfl, t1, t2⟩ := rd.tup_e
    refine ⟨b, ws, rfl, seqT sr3.fro t1, by rw [t2.length]; exact e3, gNames_go (by rw [t2.length]; exact e3) ?_⟩
    have a3 : At K F0 F3 S2 H' (setD (unsetD ρ vs) vs xs) (setV (wipe σ vs) vs ws) :=
      ⟨a1.f0.trans ((Ext.laid hD).trans x13), sr3, ((a1.env.mono x13.same).wipe vs).setD t2⟩
    refine ⟨?_, ?_⟩
    · rw [wipe_setV fun _ h => h, wipe_wipe]
    · refine TL.go a3 q2 fun b H4 F4 S4 x4 a4 q4 => ?_
      cases b with
      | false => exact iteF ⟨F4, S4, acc, us, x13.trans x4, a4.sr, RelDs.mono x4.same _ _ (RelDs.mono x3.same _ _ racc), q4⟩
      | true =>
        refine iteT (EL.go a4 q4 fun w H5 F5 S5 yd x5 a5 r5 ⟨hl, q5⟩ => ?_)
        have x15 := (x13.trans x4).trans x5
        obtain ⟨nF5, nS5, hH5⟩ := x15.laid_none a1.sr hD
        have racc5 := RelDs.mono x5.same _ _ (RelDs.mono x4.same _ _ (RelDs.mono x3.same _ _ racc))
        refine ⟨us, hH5, by rw [racc5.length]; exact hl, ?_⟩
        exact ⟨F5, S5, acc ++ [yd], us ++ [w], Ext.reset (K := K) x15, a5.sr.re nF5 nS5, racc5.append (.cons r5 .nil), q5⟩
  · refine .inl ⟨it.stop i H2 sm (by omega), ?_⟩
    rw [List.drop_eq_nil_of_le (by omega)] at q2
    obtain ⟨k1, k2⟩ := sr2.adoptF (ho := .lst us) nF nS
    have k3 := x2.adoptF (ho := .lst us) hD nF
    rw [upd_id hH] at k1 k3
    exact p.of (x1.trans k3) k1 (RelD.lst_i upd_same (RelDs.mono k2 _ _ racc)) q2
section
variable {X : Cx} {F0 : Ent} {elt iter : Expr} {ifs : List Expr} {scope : Scope} {tg : Expr} {own : List (Str × Nat)} {pos : Pos} {ti : TDI} {tt : TDT} {te : TD}
theorem de_lcT (vs : List Nat) (hvs : own.map (·.2) = vs) (hc : X.calm = true) (hN : X.N.Nodup) (hi : DI X F0 tg iter ti) (ok : BlkOk X.N X.env.scope scope own)
    (hg : ∀ (s : Shared) (H : Hp) (C : Addr) (cl : List (Str × Addr)) (fp : List Addr), PG (X.blk s H scope (compEnvC scope cl C X.env) fp) tg (gTup X.K vs.length (gNames vs)))
    (ht : ∀ (s : Shared) (H : Hp) (C : Addr) (cl : List (Str × Addr)) (fp : List Addr), DTs (X.blk s H scope (compEnvC scope cl C X.env) fp) F0 ifs tt)
    (he : ∀ (s : Shared) (H : Hp) (C : Addr) (cl : List (Str × Addr)) (fp : List Addr), DE (X.blk s H scope (compEnvC scope cl C X.env) fp) F0 elt te) (hs : ∀ x, foldedSetIterable iter X.env x = pure x := by intro _; rfl) :
    DE X F0 (.ListComp elt [⟨tg, iter, ifs, 0⟩] scope pos) (tdLcT ti vs tt te) := by
  subst hvs
  exact PE.weak (pe_lc (own := own) (tt := TL X.K F0 tt) (te := EL X.K F0 te) hc hN hi ok hg ht he hs) fun σ H Q h => lcT_go h
theorem Iters.zip {K : PySem.W.Frag} {F : Hp} {a b : Addr} {xs ys : List V} {ds es : List D} (h1 : ∀ H, Same F H → SqL K H a xs) (r1 : RelDs K F ds xs) (h2 : ∀ H, Same F H → SqL K H b ys) (r2 : RelDs K F es ys) :
    Iters K F (Itz K a b) (List.zipWith (fun x y => D.tup [x, y]) ds es) where
  go := fun i H sm hi => by
    rw [List.length_zipWith] at hi
    obtain ⟨v, k1, k2⟩ := r1.get (List.getElem?_eq_getElem (show i < ds.length by omega))
    obtain ⟨u, k3, k4⟩ := r2.get (List.getElem?_eq_getElem (show i < es.length by omega))
    exact ⟨xs, ys, v, u, h1 H sm, h2 H sm, k1, k3⟩
  stop := fun i H sm hi => by
    rw [List.length_zipWith] at hi
    exact ⟨xs, ys, h1 H sm, h2 H sm, by rw [r1.length, r2.length]; omega⟩
  yld := fun i x H H' F2 S sm sr y hi => by
    rw [List.length_zipWith] at hi
    obtain ⟨T, v, u, rfl, hT, rfl, q1, q2⟩ := y
    have k1 := q1 _ (h1 H (sm.trans sr.fro))
    have k2 := q2 _ (h2 H (sm.trans sr.fro))
    obtain ⟨d, e1, e2⟩ := r1.get' k1
    obtain ⟨e, e3, e4⟩ := r2.get' k2
    have nF := sr.fnone hT
    have nS := sr.snone hT
    have sm2 : Same F2 (upd F2 T (.tup [v, u])) := sr.same_frz hT
    refine ⟨upd F2 T (.tup [v, u]), .tup [d, e], sr.ext_frz hT, sr.frz hT, ?_, ?_⟩
    · rw [List.getElem?_zipWith, e1, e3]
    · exact .tup_i (.inl (.inl upd_same)) (.cons (RelD.mono sm2 _ _ (RelD.mono sm _ _ e2)) (.cons (RelD.mono sm2 _ _ (RelD.mono sm _ _ e4)) .nil))
def tdiZ (t : TDs) : TDI := fun ρ S Q => t ρ S fun ds S1 => match ds with
  | [.lst xs, .lst ys] => Q (List.zipWith (fun x y => D.tup [x, y]) xs ys) S1
  | _ => False
theorem di_zip {e e2 : Expr} {p tpos : Pos} {elts : List Expr} {kk : Nat} {tr : TDs} (hg : Gl X "zip") (hm : X.mg "zip" = none) (ha : DA X F0 [e, e2] tr)
    (hs : starEach [e, e2] X.env = (false, eval e X.env) :: starEach [e2] X.env := by rfl) (hpl : (backTo pos (starEach [e2] X.env)).any (·.1) = false := by rfl) :
    DI X F0 (.Tuple elts kk tpos) (.Call (.Name "zip" p) [e, e2] [] pos) (tdiZ tr) :=
  PI.weak (pi_zip hg hm ha hs hpl) fun σ H R ⟨F, S, ρ, Q', a, h, pp⟩ => AL.go a h fun vs H1 F1 S1 ds x1 a1 r1 q1 => by
    split at q1
    · obtain ⟨v, w, rfl, rv, rw'⟩ := rds2 r1
      obtain ⟨b, us, rfl, h1, h2⟩ := rv.lst_e
      obtain ⟨c, ws, rfl, h3, h4⟩ := rw'.lst_e
      exact ⟨b, c, us, ws, rfl, .of (a1.sr.fro _ _ h1), .of (a1.sr.fro _ _ h3), pp _ _ _ _ _ x1 a1.sr (.zip (fun H sm => .of (sm _ _ h1)) h2 (fun H sm => .of (sm _ _ h3)) h4) q1⟩
    · exact q1.elim
end
end DL
namespace DL
open PySem PySem.Spec L2
section
variable {X : Cx}
def gMax2 : DCall := fun S ds Q => match ds with
  | [.int i, .int j] => Q (.int (max i j)) S
  | _ => False
theorem oc_max2 (hc : X.calm = true) : CallR X (.builtin "max") (CL X.K gMax2) := CallR.weak (call_max2 hc) fun xs H Q ⟨F, S, ds, Q', sr, r, g, p⟩ => by
  unfold gMax2 at g
  split at g
  · rename_i i j
    obtain ⟨v, w, rfl, rv, rw'⟩ := rds2 r
    obtain rfl := rv.int_e
    obtain rfl := rw'.int_e
    refine ⟨i, j, rfl, ?_⟩
    have e : (if j > i then j else i) = max i j := by omega
    rw [e]
    exact p.of (Ext.refl _ _ _) sr (.int_i _) g
  · exact g.elim
theorem gIn_int {f : Bool → Bool} {S : Store} {x : Int} {ts : List Int} {Q : D → Store → Prop} : gIn f S (.int x) (.lst (ts.map D.int)) Q = Q (.bl (f (decide (x ∈ ts)))) S := by
  have h1 : ∀ l : List Int, (l.map D.int).all flatD = true := fun l => by
    induction l with
    | nil => rfl
    | cons y l ih => rw [List.map_cons, List.all_cons, ih]; rfl
  have h2 : ∀ l : List Int, ((l.map D.int).any fun y => eqF y (.int x)) = decide (x ∈ l) := fun l => by
    induction l with
    | nil => rfl
    | cons y l ih =>
      rw [List.map_cons, List.any_cons, ih]
      show (decide (y = x) || _) = _
      by_cases h : y = x
      · simp [h]
      · have h' : ¬ x = y := fun z => h z.symm
        simp [h, h']
  show (flatD (.int x) = true ∧ _ ∧ _) = _
  rw [h1, h2]; simp [flatD]
end
end DL
namespace DL
open PySem PySem.Spec L2
section
variable {X : Cx}
def gAddT : DOp := fun S x y Q => match vw S x, vw S y with
  | .int i, .int j => Q (.int (i + j)) S
  | .str a, .str b => a.length + b.length ≤ sizeLine ∧ Q (.str (a ++ b)) S
  | .lst xs, .lst ys => xs.length + ys.length ≤ sizeLine ∧ Q (.lst (xs ++ ys)) S
  | .tup xs, .tup ys => xs.length + ys.length ≤ sizeLine ∧ Q (.tup (xs ++ ys)) S
  | _, _ => False
theorem od_addT : OpR X (binaryOp .Add) (OL X.K gAddT) := by
  refine OpR.weak (OpR.or od_add op_catA) fun x y H Q ⟨F, S, dx, dy, Q', sr, rx, ry, g, p⟩ => ?_
  unfold gAddT at g
  split at g
  · rename_i i j e1 e2
    refine .inl ⟨F, S, dx, dy, Q', sr, rx, ry, ?_, p⟩
    unfold gAdd
    rw [e1, e2]
    exact g
  · rename_i i j e1 e2
    refine .inl ⟨F, S, dx, dy, Q', sr, rx, ry, ?_, p⟩
    unfold gAdd
    rw [e1, e2]
    exact g
  · rename_i i j e1 e2
    refine .inl ⟨F, S, dx, dy, Q', sr, rx, ry, ?_, p⟩
    unfold gAdd
    rw [e1, e2]
    exact g
  · rename_i xs ys e1 e2
    obtain ⟨a, vs, rfl, h1, k1⟩ := vw_tup sr rx e1
    obtain ⟨b, us, rfl, h2, k2⟩ := vw_tup sr ry e2
    refine .inr ⟨a, b, vs, us, rfl, rfl, h1, h2, by rw [k1.length, k2.length]; exact g.1, fun z => ?_, fun z1 z => ?_, fun z1 z2 q hq => ?_⟩
    · subst z
      have e : xs = [] := List.length_eq_zero_iff.mp (by rw [← k1.length]; rfl)
      subst e
      have e3 : vw S dy = .tup ys := e2
      refine p.of (Ext.refl _ _ _) sr ?_ g.2
      rcases vw_case S dy with q | ⟨c, es, rfl, q1, q2⟩
      · rw [q] at e3
        rw [e3] at ry
        exact ry
      · rw [q2] at e3; cases e3
    · subst z
      have e : ys = [] := List.length_eq_zero_iff.mp (by rw [← k2.length]; rfl)
      subst e
      have g2 := g.2
      rw [List.append_nil] at g2
      refine p.of (Ext.refl _ _ _) sr ?_ g2
      rcases vw_case S dx with q | ⟨c, es, rfl, q1, q2⟩
      · rw [q] at e1
        rw [e1] at rx
        exact rx
      · rw [q2] at e1; cases e1
    · exact p.of (sr.ext_frz hq) (sr.frz hq) (.tup_i (.inl (.inl upd_same)) (RelDs.mono (sr.same_frz hq) _ _ (k1.append k2))) g.2
  · exact g.elim
def gInD (f : Bool → Bool) : DOp := fun S x y Q => match vw S y with
  | .lst ds => (vw S x).pure = true ∧ D.pures ds = true ∧ SeqAt.shaped (vw S x).data = true ∧ SeqAt.shaped (D.lst ds).data = true ∧ Q (.bl (f ((D.datas ds).any fun z => PyData.eqv z (vw S x).data))) S
  | _ => False
theorem inD_case {F : Hp} {S : Store} {H : Hp} {dx dy : D} {x y : V} {Q : VK} {Q' : D → Store → Prop} {f : Bool → Bool} (sr : SR X.K F S H) (rx : RelD X.K F dx x) (ry : RelD X.K F dy y) (g : gInD f S dx dy Q') (p : Post X.K F S H Q' Q) :
    ∃ d ds, Dp X.K H x d ∧ Dp X.K H y (.list ds) ∧ SeqAt.shaped d = true ∧ SeqAt.shaped (.list ds) = true ∧ Q (.bl (f (ds.any fun z => PyData.eqv z d))) H := by
  unfold gInD at g
  split at g
  · rename_i ds e
    obtain ⟨h1, h2, h3, h4, g⟩ := g
    have hp : (vw S dy).pure = true := by rw [e]; exact h2
    have hd : Dp X.K H y (vw S dy).data := vw_dp sr ry hp
    rw [e] at hd
    exact ⟨_, _, vw_dp sr rx h1, hd, h3, h4, p.of (Ext.refl _ _ _) sr (.bl_i _) g⟩
  · exact g.elim
theorem od_inD (hu : X.A.units + 65 < cLine) : OpR X (compareOp .In) (OL X.K (gInD id)) :=
  OpR.weak (op_inD hu) fun x y H Q ⟨F, S, dx, dy, Q', sr, rx, ry, g, p⟩ => inD_case sr rx ry g p
theorem od_ninD (hu : X.A.units + 65 < cLine) : OpR X (compareOp .NotIn) (OL X.K (gInD not)) :=
  OpR.weak (op_notInD hu) fun x y H Q ⟨F, S, dx, dy, Q', sr, rx, ry, g, p⟩ => inD_case sr rx ry g p
def gSortI : DCall := fun S ds Q => match ds with
  | [x] => match vw S x with
    | .lst ds => ∃ ns, intsD ds = some ns ∧ ∀ ns' : List Int, ns'.Perm ns → ns'.Pairwise (· ≤ ·) → Q (.lst (ns'.map D.int)) S
    | _ => False
  | _ => False
theorem oc_sortI : CallR X (.builtin "sorted") (CL X.K gSortI) := CallR.weak cr_sortedI fun xs H Q ⟨F, S, ds, Q', sr, r, g, p⟩ => by
  unfold gSortI at g
  split at g
  · obtain ⟨v, rfl, rv⟩ := rds1 r
    split at g
    · rename_i t e
      obtain ⟨ns, h0, g⟩ := g
      obtain ⟨a, vs, rfl, h1, h2⟩ := vw_lst sr rv e
      rw [intsD_map h0] at h2
      rw [ints_rel h2] at h1
      exact ⟨a, ns, rfl, .of h1, fun ns' q h3 h4 hq => p.of (sr.ext_frz hq) (sr.frz hq) (RelD.lst_i upd_same (RelDs.ints ns')) (g ns' h3 h4)⟩
    · exact g.elim
  · exact g.elim
def gMin2 : DCall := fun S ds Q => match ds with
  | [.int i, .int j] => Q (.int (min i j)) S
  | _ => False
theorem oc_min2 (hc : X.calm = true) : CallR X (.builtin "min") (CL X.K gMin2) := CallR.weak (call_min2 hc) fun xs H Q ⟨F, S, ds, Q', sr, r, g, p⟩ => by
  unfold gMin2 at g
  split at g
  · rename_i i j
    obtain ⟨v, w, rfl, rv, rw'⟩ := rds2 r
    obtain rfl := rv.int_e
    obtain rfl := rw'.int_e
    refine ⟨i, j, rfl, ?_⟩
    have e : (if j < i then j else i) = min i j := by omega
    rw [e]
    exact p.of (Ext.refl _ _ _) sr (.int_i _) g
  · exact g.elim
def gTuple : DCall := fun S ds Q => match ds with
  | [x] => match vw S x with
    | .lst ds => Q (.tup ds) S
    | .tup ds => Q (.tup ds) S
    | _ => False
  | _ => False
theorem oc_tuple : CallR X (.type "tuple") (CL X.K gTuple) := CallR.weak call_tuple_of fun xs H Q ⟨F, S, ds, Q', sr, r, g, p⟩ => by
  unfold gTuple at g
  split at g
  · rename_i x
    obtain ⟨v, rfl, rv⟩ := rds1 r
    split at g
    · rename_i t e
      obtain ⟨a, vs, rfl, h1, h2⟩ := vw_lst sr rv e
      exact ⟨a, vs, rfl, .inl ⟨.of h1, fun l hl => p.of (sr.ext_frz hl) (sr.frz hl) (.tup_i (.inl (.inl upd_same)) (RelDs.mono (sr.same_frz hl) _ _ h2)) g⟩⟩
    · rename_i t e
      obtain ⟨a, vs, rfl, h1, h2⟩ := vw_tup sr rv e
      refine ⟨a, vs, rfl, .inr ⟨h1, p.of (Ext.refl _ _ _) sr ?_ g⟩⟩
      rcases vw_case S x with q | ⟨c, es, rfl, q1, q2⟩
      · rw [q] at e
        rw [e] at rv
        exact rv
      · rw [q2] at e; cases e
    · exact g.elim
  · exact g.elim
/-- dict(xs) of a list of pairs -/
def pairsD : List D → Option (List (DK × D))
  | [] => some []
  | .tup [.int i, d] :: r => (pairsD r).map ((.inl i, d) :: ·)
  | .tup [.str t, d] :: r => (pairsD r).map ((.inr t, d) :: ·)
  | _ => none
def gDictP : DCall := fun S ds Q => match ds with
  | [x] => match vw S x with
    | .lst ds => ∃ kvs, pairsD ds = some kvs ∧ ∀ p, S p = none → Q (.ref p) (sup S p (.dic (mergeD [] kvs)))
    | _ => False
  | _ => False
theorem pairsD_rel {K : PySem.W.Frag} {F H : Hp} (sm : Same F H) : ∀ {ds : List D} {vs : List V} {kvs : List (DK × D)}, pairsD ds = some kvs → RelDs K F ds vs →
    ∃ (ps : List Addr) (us : List (Key × V)), vs = ps.map V.ref ∧ RelF K F (kmap kvs) us ∧ Paired (fun p kv => SqT K H p [kV kv.1, kv.2]) ps us
  | [], vs, kvs, h, r => by
    cases h
    exact ⟨[], [], r.nil_inv, rfl, .nil⟩
  | d :: r, vs, kvs, h, q => by
    obtain ⟨v, ws, rfl, q1, q2⟩ := q.cons_inv
    unfold pairsD at h
    split at h <;> first
      | (rename_i heq; cases heq; done)
      | (cases h; done)
      | (rename_i heq
         injection heq with e1 e2
         subst e1; subst e2
         cases z : pairsD _ with
         | none => rw [z] at h; cases h
         | some ms =>
           rw [z] at h; cases h
           obtain ⟨ps, us, rfl, k1, k2⟩ := pairsD_rel sm z q2
           obtain ⟨a, xs, rfl, t1, t2⟩ := q1.tup_e
           obtain ⟨x, y, rfl, x1, y1⟩ := rds2 t2
           first
             | (obtain rfl := x1.int_e; exact ⟨a :: ps, (.inl _, y) :: us, rfl, ⟨y, us, rfl, y1, k1⟩, .cons (seqT sm t1) k2⟩)
             | (obtain rfl := x1.str_e; exact ⟨a :: ps, (.inr _, y) :: us, rfl, ⟨y, us, rfl, y1, k1⟩, .cons (seqT sm t1) k2⟩))
theorem oc_dictP (hc : X.calm = true) : CallR X (.type "dict") (CL X.K gDictP) := CallR.weak (call_dictP hc) fun xs H Q ⟨F, S, ds, Q', sr, r, g, p⟩ => by
  unfold gDictP at g
  split at g
  · rename_i x
    obtain ⟨v, rfl, rv⟩ := rds1 r
    split at g
    · rename_i t e
      obtain ⟨kvs, h0, g⟩ := g
      obtain ⟨a, vs, rfl, h1, h2⟩ := vw_lst sr rv e
      obtain ⟨ps, us, rfl, k1, k2⟩ := pairsD_rel sr.fro h0 h2
      refine ⟨a, ps, us, rfl, .of h1, k2, fun q hq => ?_⟩
      exact p.of (sr.ext_box (o := .dic (mergeD [] kvs)) hq) (sr.box (o := .dic (mergeD [] kvs)) hq ⟨_, rfl, mergeD_rel k1 rfl⟩) (.ref_i _) (g q (sr.snone hq))
    · exact g.elim
  · exact g.elim
end
section
variable {X : Cx} {F0 : Ent} {o e : Expr} {to te : TD} {pos apos cpos : Pos}
/-- xs.index(e) -/
def tdIdx (to te : TD) : TD := fun ρ S Q => to ρ S fun x S1 => (∃ ds, vw S1 x = .lst ds) ∧ te ρ S1 fun y S2 => ∃ ds j z, vw S2 x = .lst ds ∧ D.pures ds = true ∧ (vw S2 y).pure = true ∧ SeqAt.shaped (D.lst ds).data = true ∧ SeqAt.shaped (vw S2 y).data = true ∧
  (D.datas ds)[j]? = some z ∧ PyData.eqv z (vw S2 y).data = true ∧ (∀ (m : Nat) (z' : PyData), m < j → (D.datas ds)[m]? = some z' → PyData.eqv z' (vw S2 y).data = false) ∧ Q (.int (j : Nat)) S2
theorem de_index (hu : X.A.units + 65 < cLine) (ho : DE X F0 o to) (he : DE X F0 e te)
    (hbase : attributeBase o "index" X.env (eval o X.env) = eval o X.env := by rfl)
    (hfew : ((backTo cpos (starEach [e] X.env)).all (fun x => !x.1) && (backToKw cpos (keywordEach [] X.env)).all (fun x => x.1.isSome)
      && decide ([e].length + ([] : List Keyword).length + (if ([] : List Keyword).isEmpty then 0 else 1) < 30)) = true := by rfl)
    (hline : (apos.endLine == cpos.line) = true := by rfl) (hs : starEach [e] X.env = (false, eval e X.env) :: starEach [] X.env := by rfl) :
    DE X F0 (.Call (.Attribute o "index" apos) [e] [] cpos) (tdIdx to te) :=
  PE.weak (pe_bm PySem.F.plainAttrs_list PySem.F.slot_list_index PySem.F.type_list_index (mt_indexD hu) ho (da_cons he da_nil hs) hbase hfew hline hs rfl) fun σ H Q ⟨F, S, ρ, Q', at0, h, p⟩ => by
    refine EL.go at0 h fun v H1 F1 S1 d x1 a1 r1 ⟨⟨ds, e1⟩, q1⟩ => ?_
    obtain ⟨a, vs, rfl, h1, h2⟩ := vw_lst a1.sr r1 e1
    refine ⟨.inl ⟨rfl, vs, .of h1⟩, ?_⟩
    refine AL.go (Q1 := fun ys S2 => ∃ y, ys = [y] ∧ ∃ ds j z, vw S2 d = .lst ds ∧ D.pures ds = true ∧ (vw S2 y).pure = true ∧ SeqAt.shaped (D.lst ds).data = true ∧ SeqAt.shaped (vw S2 y).data = true ∧
      (D.datas ds)[j]? = some z ∧ PyData.eqv z (vw S2 y).data = true ∧ (∀ (m : Nat) (z' : PyData), m < j → (D.datas ds)[m]? = some z' → PyData.eqv z' (vw S2 y).data = false) ∧ Q' (.int (j : Nat)) S2) a1 ?_ fun ws H2 F2 S2 ys x2 a2 r2 q2 => ?_
    · show te ρ S1 fun y S2 => _
      have : (fun (y : D) (S2 : Store) => ∃ ds j z, vw S2 d = .lst ds ∧ D.pures ds = true ∧ (vw S2 y).pure = true ∧ SeqAt.shaped (D.lst ds).data = true ∧ SeqAt.shaped (vw S2 y).data = true ∧
          (D.datas ds)[j]? = some z ∧ PyData.eqv z (vw S2 y).data = true ∧ (∀ (m : Nat) (z' : PyData), m < j → (D.datas ds)[m]? = some z' → PyData.eqv z' (vw S2 y).data = false) ∧ Q' (.int (j : Nat)) S2) =
        fun y S2 => tdNil ρ S2 fun xs S3 => ∃ z, y :: xs = [z] ∧ ∃ ds j z', vw S3 d = .lst ds ∧ D.pures ds = true ∧ (vw S3 z).pure = true ∧ SeqAt.shaped (D.lst ds).data = true ∧ SeqAt.shaped (vw S3 z).data = true ∧
          (D.datas ds)[j]? = some z' ∧ PyData.eqv z' (vw S3 z).data = true ∧ (∀ (m : Nat) (z'' : PyData), m < j → (D.datas ds)[m]? = some z'' → PyData.eqv z'' (vw S3 z).data = false) ∧ Q' (.int (j : Nat)) S3 := by
        funext y S2
        refine propext ⟨fun h => ⟨y, rfl, h⟩, fun ⟨z, hz, h⟩ => ?_⟩
        cases hz
        exact h
      rw [← this]
      exact q1
    · obtain ⟨y, rfl, ds2, j, z, e3, e4, e5, e6, e7, e8, e9, e10, q3⟩ := q2
      obtain ⟨w, rfl, rw'⟩ := rds1 r2
      have r3 := RelD.mono x2.same _ _ r1
      have hp : (vw S2 d).pure = true := by rw [e3]; exact e4
      have hd := vw_dp a2.sr r3 hp
      rw [e3] at hd
      exact ⟨a, w, _, _, j, z, rfl, rfl, hd, vw_dp a2.sr rw' e5, e6, e7, e8, e9, e10, p.of (x1.trans x2) a2.sr (.int_i _) q3⟩
/-- a, b = a list -/
def gdUnl (n : Nat) (gs : TDGs) : TDG := fun d ρ S Q => ∃ ds, vw S d = .lst ds ∧ ds.length = n ∧ gs ds ρ S Q
theorem dg_unl {es : List Expr} {k : Nat} {gs : TDGs} {n : Nat} (hc : X.calm = true) (h : DGs X F0 es gs) (hn : (assignEach es X.env).length = n := by rfl) (hst : (assignEach es X.env).findIdx? (·.1) = none := by rfl) : DG X F0 (.Tuple es k pos) (gdUnl n gs) :=
  PG.weak (pg_unl hc h hn hst) fun v σ H Q ⟨F, S, ρ, d, Q', a, r, ⟨ds, g1, g2, g3⟩, p⟩ => by
    obtain ⟨b, vs, rfl, k1, k2⟩ := vw_lst a.sr r g1
    exact ⟨b, vs, rfl, .of k1, by rw [k2.length]; exact g2, F, S, ρ, ds, Q', a, k2, g3, p⟩
/-- range(i, j, -1) -/
def rngN (i : Int) (n : Nat) : List D := (List.range n).map fun (k : Nat) => D.int (i - (k : Int))
theorem Iters.down {K : PySem.W.Frag} {F : Hp} (i : Int) (n : Nat) : Iters K F (Itc i (-1) n) (rngN i n) where
  go := fun k H _ hi => by
    have h : k < n := by simpa [rngN] using hi
    exact h
  stop := fun k H _ hi => by
    have h : n ≤ k := by simpa [rngN] using hi
    exact h
  yld := fun k x H H' F2 S sm sr y hi => by
    obtain ⟨rfl, rfl⟩ := y
    have hi' : k < n := by simpa [rngN] using hi
    have e : i + (-1) * (k : Int) = i - (k : Int) := by omega
    refine ⟨F2, .int (i - (k : Int)), Ext.refl _ _ _, sr, by simp [rngN, hi'], ?_⟩
    first
      | (rw [e]; exact .int_i _)
      | (rw [show i + (k : Int) * -1 = i - (k : Int) by omega]; exact .int_i _)
def tdiD (t : TDs) : TDI := fun ρ S Q => t ρ S fun ds S1 => match ds with
  | [.int i, .int j, .int (-1)] => (-(2 ^ 62) ≤ i ∧ i < 2 ^ 62 ∧ -(2 ^ 62) ≤ j ∧ j < 2 ^ 62) ∧ Q (rngN i (i - j).toNat) S1
  | _ => False
theorem di_down {tg a b c : Expr} {p : Pos} {tr : TDs} (hg : Gl X "range") (hm : X.mg "range" = none) (ha : DA X F0 [a, b, c] tr)
    (hs : starEach [a, b, c] X.env = (false, eval a X.env) :: starEach [b, c] X.env := by rfl) (hpl : (backTo pos (starEach [b, c] X.env)).any (·.1) = false := by rfl) :
    DI X F0 tg (.Call (.Name "range" p) [a, b, c] [] pos) (tdiD tr) :=
  PI.weak (pi_range3 hg hm ha hs hpl) fun σ H R ⟨F, S, ρ, Q', at0, h, pp⟩ => AL.go at0 h fun vs H1 F1 S1 ds x1 a1 r1 q1 => by
    split at q1
    · rename_i i j
      obtain ⟨v, ws, rfl, rv, r2⟩ := r1.cons_inv
      obtain ⟨u, w, rfl, ru, rw'⟩ := rds2 r2
      obtain rfl := rv.int_e
      obtain rfl := ru.int_e
      obtain rfl := rw'.int_e
      exact ⟨i, j, -1, _, rfl, .neg q1.1.1 q1.1.2.1 q1.1.2.2.1 q1.1.2.2.2, pp _ _ _ _ _ x1 a1.sr (.down _ _) q1.2⟩
    · exact q1.elim
end
end DL
namespace DL
open PySem PySem.Spec L2
theorem hu65 {d : Nat} {A : Around} (q : Rm d A) : A.units + 65 < cLine := by have z := q.uni; omega
theorem bb_min : bootBuiltins "min" = some (.builtin "min") := by decide +kernel
theorem bb_sorted : bootBuiltins "sorted" = some (.builtin "sorted") := by decide +kernel
theorem bb_dict : bootBuiltins "dict" = some (.type "dict") := by decide +kernel
theorem ln_4 {α β : Type} {a b c d : α} {x y z u : β} : ([a, b, c, d].length = [x, y, z, u].length) = True := eq_true rfl
theorem ln_5 {α β : Type} {a b c d e : α} {x y z u v : β} : ([a, b, c, d, e].length = [x, y, z, u, v].length) = True := eq_true rfl
theorem ln_6 {α β : Type} {a b c d e f : α} {x y z u v w : β} : ([a, b, c, d, e, f].length = [x, y, z, u, v, w].length) = True := eq_true rfl
theorem sort2 {a b : Int} {ns : List Int} (h : ns.Perm [a, b]) (g : ns.Pairwise (· ≤ ·)) : ns = [min a b, max a b] := by
  have hl : ns.length = 2 := h.length_eq
  match ns, hl with
  | [x, y], _ =>
    have h1 : x ≤ y := by
      cases g with
      | cons q _ => exact q y List.mem_cons_self
    have hx : x ∈ [a, b] := h.mem_iff.mp List.mem_cons_self
    have hy : y ∈ [a, b] := h.mem_iff.mp (List.mem_cons_of_mem _ List.mem_cons_self)
    have ha : a ∈ [x, y] := h.mem_iff.mpr List.mem_cons_self
    have hb : b ∈ [x, y] := h.mem_iff.mpr (List.mem_cons_of_mem _ List.mem_cons_self)
    simp only [List.mem_cons, List.not_mem_nil, or_false] at hx hy ha hb
    have e1 : x = min a b := by omega
    have e2 : y = max a b := by omega
    rw [e1, e2]
theorem fmod_nat (n m : Nat) : ((n : Nat) : Int).fmod ((m : Nat) : Int) = ((n % m : Nat) : Int) := by
  rw [Int.fmod_eq_emod_of_nonneg _ (by omega)]
  exact (Int.natCast_emod n m).symm
theorem fdiv_nat (n m : Nat) : ((n : Nat) : Int).fdiv ((m : Nat) : Int) = ((n / m : Nat) : Int) := by
  rw [Int.fdiv_eq_ediv_of_nonneg _ (by omega)]
  exact (Int.natCast_ediv n m).symm
theorem fmod_2 (n : Nat) : ((n : Nat) : Int).fmod 2 = ((n % 2 : Nat) : Int) := fmod_nat n 2
theorem fdiv_2 (n : Nat) : ((n : Nat) : Int).fdiv 2 = ((n / 2 : Nat) : Int) := fdiv_nat n 2
def prD (p : Nat × Nat) : D := .tup [.int (p.1 : Nat), .int (p.2 : Nat)]
theorem pr_pures : ∀ ps : List (Nat × Nat), D.pures (ps.map prD) = true
  | [] => rfl
  | p :: ps => by
    show (D.pure (prD p) && D.pures (ps.map prD)) = true
    rw [pr_pures ps]
    rfl
theorem pr_lay : ∀ ps : List (Nat × Nat), PyData.canLayAll0 (D.datas (ps.map prD)) = true ∧ PyData.depthAll (D.datas (ps.map prD)) ≤ 1
  | [] => ⟨rfl, Nat.zero_le _⟩
  | p :: ps => by
    obtain ⟨h1, h2⟩ := pr_lay ps
    refine ⟨?_, ?_⟩
    · show (true && PyData.canLayAll0 (D.datas (ps.map prD))) = true
      rw [h1]; rfl
    · show max (max 0 (max 0 0) + 1) (PyData.depthAll (D.datas (ps.map prD))) ≤ 1
      omega
theorem pr_shaped (ps : List (Nat × Nat)) : SeqAt.shaped (D.lst (ps.map prD)).data = true := by
  obtain ⟨h1, h2⟩ := pr_lay ps
  show (PyData.canLayAll0 (D.datas (ps.map prD)) && decide (PyData.depthAll (D.datas (ps.map prD)) + 1 ≤ 64)) = true
  rw [h1, decide_eq_true (by omega)]
  rfl
theorem pr_shaped1 (p : Nat × Nat) : SeqAt.shaped (prD p).data = true := by
  show (true && decide (max 0 (max 0 0) + 1 ≤ 64)) = true
  rfl
theorem pr_eqv (p q : Nat × Nat) : PyData.eqv (prD p).data (prD q).data = decide (p = q) := by
  show ((((p.1 : Int) == (q.1 : Int)) && (((p.2 : Int) == (q.2 : Int)) && true))) = _
  obtain ⟨a, b⟩ := p
  obtain ⟨c, d⟩ := q
  by_cases h : (a, b) = (c, d)
  · cases h
    simp
  · rw [decide_eq_false h]
    by_cases h1 : a = c
    · have h2 : ¬ b = d := fun z => h (by rw [h1, z])
      have q : ((b : Int) == (d : Int)) = false := beq_eq_false_iff_ne.mpr (by omega)
      show (((a : Int) == (c : Int)) && (((b : Int) == (d : Int)) && true)) = false
      rw [q, Bool.false_and, Bool.and_false]
    · have q : ((a : Int) == (c : Int)) = false := beq_eq_false_iff_ne.mpr (by omega)
      show (((a : Int) == (c : Int)) && _) = false
      rw [q, Bool.false_and]
theorem pr_any (p : Nat × Nat) : ∀ ps : List (Nat × Nat), ((D.datas (ps.map prD)).any fun z => PyData.eqv z (prD p).data) = decide (p ∈ ps)
  | [] => rfl
  | q :: ps => by
    show (PyData.eqv (prD q).data (prD p).data || (D.datas (ps.map prD)).any fun z => PyData.eqv z (prD p).data) = _
    rw [pr_any p ps, pr_eqv]
    by_cases h : q = p
    · simp [h]
    · have h' : ¬ p = q := fun z => h z.symm
      simp [h, h']
theorem pr_datas (ps : List (Nat × Nat)) (j : Nat) : (D.datas (ps.map prD))[j]? = (ps[j]?).map fun p => (prD p).data := by
  induction ps generalizing j with
  | nil => rfl
  | cons p ps ih =>
    cases j with
    | zero => rfl
    | succ j => exact ih j
/-- x in a stored list of pairs -/
theorem gInD_pr {f : Bool → Bool} {S : Store} {a : Addr} {ps : List (Nat × Nat)} {p : Nat × Nat} {Q : D → Store → Prop} (h : S a = some (.lst (ps.map prD))) (q : Q (.bl (f (decide (p ∈ ps)))) S) : gInD f S (prD p) (.ref a) Q := by
  unfold gInD
  rw [vw_ref h]
  show (prD p).pure = true ∧ _
  refine ⟨rfl, pr_pures ps, pr_shaped1 p, pr_shaped ps, ?_⟩
  show Q (.bl (f ((D.datas (ps.map prD)).any fun z => PyData.eqv z (prD p).data))) S
  rw [pr_any]
  exact q
theorem idx_pr {S : Store} {a : Addr} {ps : List (Nat × Nat)} {p : Nat × Nat} (h : S a = some (.lst (ps.map prD))) (hp : p ∈ ps) {Q : Nat → Prop} (q : ∀ j, ps[j]? = some p → Q j) :
    ∃ ds j z, vw S (.ref a) = .lst ds ∧ D.pures ds = true ∧ (vw S (prD p)).pure = true ∧ SeqAt.shaped (D.lst ds).data = true ∧ SeqAt.shaped (vw S (prD p)).data = true ∧
      (D.datas ds)[j]? = some z ∧ PyData.eqv z (vw S (prD p)).data = true ∧ (∀ (m : Nat) (z' : PyData), m < j → (D.datas ds)[m]? = some z' → PyData.eqv z' (vw S (prD p)).data = false) ∧ Q j := by
  have ex : ∃ j, ps[j]? = some p ∧ ∀ m : Nat, m < j → ps[m]? ≠ some p := by
    clear q h
    induction ps with
    | nil => cases hp
    | cons x ps ih =>
      by_cases hx : x = p
      · exact ⟨0, by rw [hx]; rfl, fun m hm => absurd hm (by omega)⟩
      · obtain ⟨j, h1, h2⟩ := ih ((List.mem_cons.mp hp).resolve_left fun z => hx z.symm)
        refine ⟨j + 1, h1, fun m hm => ?_⟩
        cases m with
        | zero => exact fun z => hx (Option.some.inj z)
        | succ m => exact h2 m (by omega)
  obtain ⟨j, h1, h2⟩ := ex
  refine ⟨ps.map prD, j, (prD p).data, vw_ref h, pr_pures ps, rfl, pr_shaped ps, pr_shaped1 p, ?_, ?_, fun m z' hm hz => ?_, q j h1⟩
  · rw [pr_datas, h1]; rfl
  · show PyData.eqv (prD p).data (prD p).data = true
    rw [pr_eqv, decide_eq_true rfl]
  · rw [pr_datas] at hz
    cases hy : ps[m]? with
    | none => rw [hy] at hz; cases hz
    | some y =>
      rw [hy] at hz
      cases hz
      show PyData.eqv (prD y).data (prD p).data = false
      rw [pr_eqv]
      exact decide_eq_false fun z => h2 m hm (by rw [hy, z])
end DL
namespace DL
open PySem PySem.Spec L2
theorem valD_rep_ne (kvs : List (DK × D)) (k j : DK) (v : D) (hj : j ≠ k) : valD (repD kvs k v) j = valD kvs j := by
  induction kvs with
  | nil => rfl
  | cons p r ih =>
    obtain ⟨k', d⟩ := p
    show (if k' = j then some (if k' = k then v else d) else valD (repD r k v) j) = if k' = j then some d else valD r j
    rw [ih]
    by_cases e : k' = j
    · rw [if_pos e, if_pos e, if_neg (fun z => hj (by rw [← e, z]))]
    · rw [if_neg e, if_neg e]
theorem valD_rep_eq (kvs : List (DK × D)) (k : DK) (v : D) (h : hasD kvs k = true) : valD (repD kvs k v) k = some v := by
  induction kvs with
  | nil => cases h
  | cons p r ih =>
    obtain ⟨k', d⟩ := p
    unfold hasD at h
    show (if k' = k then some (if k' = k then v else d) else valD (repD r k v) k) = some v
    by_cases e : k' = k
    · rw [if_pos e, if_pos e]
    · rw [if_neg e] at h ⊢
      exact ih h
theorem valD_rep (kvs : List (DK × D)) (k j : DK) (v : D) (h : hasD kvs k = true) : valD (repD kvs k v) j = if j = k then some v else valD kvs j := by
  by_cases e : j = k
  · subst e
    rw [if_pos rfl]
    exact valD_rep_eq kvs j v h
  · rw [if_neg e]
    exact valD_rep_ne kvs k j v e
theorem valD_app (kvs : List (DK × D)) (k j : DK) (v : D) (h : hasD kvs k = false) : valD (kvs ++ [(k, v)]) j = if j = k then some v else valD kvs j := by
  induction kvs with
  | nil =>
    show (if k = j then _ else _) = _
    by_cases e : j = k
    · rw [if_pos e.symm, if_pos e]
    · rw [if_neg (fun z => e z.symm), if_neg e]
  | cons p r ih =>
    obtain ⟨k', d⟩ := p
    unfold hasD at h
    by_cases e : k' = k
    · rw [if_pos e] at h; cases h
    · rw [if_neg e] at h
      show (if k' = j then _ else valD (r ++ [(k, v)]) j) = if j = k then _ else (if k' = j then _ else valD r j)
      rw [ih h]
      by_cases e2 : j = k
      · rw [if_neg (fun z => e (by rw [z, e2])), if_pos e2, if_pos e2]
      · rw [if_neg e2, if_neg e2]
theorem valD_put (kvs : List (DK × D)) (k j : DK) (v : D) : valD (putD kvs k v) j = if j = k then some v else valD kvs j := by
  unfold putD
  split
  · rename_i h; exact valD_rep kvs k j v h
  · rename_i h
    exact valD_app kvs k j v (by cases z : hasD kvs k with
      | true => exact absurd z h
      | false => rfl)
theorem rep_len (kvs : List (DK × D)) (k : DK) (v : D) : (repD kvs k v).length = kvs.length := by
  induction kvs with
  | nil => rfl
  | cons p r ih =>
    obtain ⟨k', d⟩ := p
    unfold repD
    rw [List.length_cons, ih, List.length_cons]
theorem put_len (kvs : List (DK × D)) (k : DK) (v : D) : (putD kvs k v).length ≤ kvs.length + 1 := by
  unfold putD
  split
  · rw [rep_len]; omega
  · rw [List.length_append]; exact Nat.le_refl _
end DL
namespace DL
open PySem PySem.Spec L2
/-- a comprehension whose items leave the store alone -/
theorem lcR_f {v : Nat} {te : TD} {ρ : Rho} {Q : List D → Store → Prop} (f : D → D) : ∀ (ds acc : List D) (S : Store), (∀ d ∈ ds, ∀ Q' : D → Store → Prop, Q' (f d) S → te (ρ.set v (some d)) S Q') → acc.length + ds.length ≤ 100000 →
    Q (acc ++ ds.map f) S → lcR v tdYes te ρ ds acc S Q
  | [], acc, S, _, _, q => by
    rw [List.map_nil, List.append_nil] at q
    exact q
  | d :: ds, acc, S, ht, hl, q => by
    rw [List.length_cons] at hl
    show te _ S _
    refine ht d List.mem_cons_self _ ⟨Nat.lt_of_lt_of_le (show acc.length < 100001 by omega) (sz5 (by omega)), ?_⟩
    refine lcR_f f ds (acc ++ [f d]) S (fun k hk => ht k (List.mem_cons_of_mem _ hk)) (by rw [List.length_append]; show acc.length + 1 + ds.length ≤ _; omega) ?_
    rw [List.append_assoc]
    exact q
/-- numbers as data -/
abbrev nat (n : Nat) : D := .int (n : Nat)
/-- a comprehension over numbers -/
theorem lcR_n {v : Nat} {te : TD} {ρ : Rho} {Q : List D → Store → Prop} (f : Nat → D) : ∀ (ns : List Nat) (acc : List D) (S : Store), (∀ n ∈ ns, ∀ Q' : D → Store → Prop, Q' (f n) S → te (ρ.set v (some (nat n))) S Q') → acc.length + ns.length ≤ 100000 →
    Q (acc ++ ns.map f) S → lcR v tdYes te ρ (ns.map nat) acc S Q
  | [], acc, S, _, _, q => by
    rw [List.map_nil, List.append_nil] at q
    exact q
  | d :: ds, acc, S, ht, hl, q => by
    rw [List.length_cons] at hl
    show te _ S _
    refine ht d List.mem_cons_self _ ⟨Nat.lt_of_lt_of_le (show acc.length < 100001 by omega) (sz5 (by omega)), ?_⟩
    refine lcR_n f ds (acc ++ [f d]) S (fun k hk => ht k (List.mem_cons_of_mem _ hk)) (by rw [List.length_append]; show acc.length + 1 + ds.length ≤ _; omega) ?_
    rw [List.append_assoc]
    exact q
theorem rng_nat (n : Nat) : rngD 0 ((n : Nat) : Int).toNat = (List.range' 0 n).map nat := by
  unfold rngD
  rw [Int.toNat_natCast, List.range_eq_range']
  refine List.map_congr_left fun i _ => ?_
  rw [Int.zero_add]
/-- a table that a list of pairs makes -/
theorem valD_merge (f : Nat → D) : ∀ (ns : List Nat) (kvs : List (DK × D)) (j : Nat), valD (mergeD kvs (ns.map fun n => ((Sum.inl ((n : Nat) : Int) : DK), f n))) (.inl (j : Nat)) = if j ∈ ns then some (f j) else valD kvs (.inl (j : Nat))
  | [], kvs, j => by
    rw [if_neg (by simp)]
    rfl
  | n :: ns, kvs, j => by
    show valD (mergeD (putD kvs (.inl (n : Nat)) (f n)) (ns.map _)) _ = _
    rw [valD_merge f ns]
    by_cases h : j ∈ ns
    · rw [if_pos h, if_pos (List.mem_cons_of_mem _ h)]
    · rw [if_neg h, valD_put]
      by_cases e : j = n
      · subst e
        rw [if_pos rfl, if_pos List.mem_cons_self]
      · rw [if_neg (fun z => e (by injection z with z; omega)), if_neg (fun z => (List.mem_cons.mp z).elim e h)]
theorem merge_len (f : Nat → D) : ∀ (ns : List Nat) (kvs : List (DK × D)), (mergeD kvs (ns.map fun n => ((Sum.inl ((n : Nat) : Int) : DK), f n))).length ≤ kvs.length + ns.length
  | [], kvs => Nat.le_refl _
  | n :: ns, kvs => by
    have h := merge_len f ns (putD kvs (.inl (n : Nat)) (f n))
    have h2 := put_len kvs (.inl (n : Nat)) (f n)
    show (mergeD (putD kvs (.inl (n : Nat)) (f n)) (ns.map _)).length ≤ _
    rw [List.length_cons]
    omega
theorem pairsD_nat (f : Nat → D) : ∀ ns : List Nat, pairsD (ns.map fun n => D.tup [nat n, f n]) = some (ns.map fun n => ((Sum.inl ((n : Nat) : Int) : DK), f n))
  | [] => rfl
  | n :: ns => by
    show (pairsD (ns.map fun n => D.tup [nat n, f n])).map _ = _
    rw [pairsD_nat f ns]
    rfl
theorem gIn_nat {f : Bool → Bool} {S : Store} {x : Nat} {ts : List Nat} {Q : D → Store → Prop} : gIn f S (.int (x : Nat)) (.lst (ts.map nat)) Q = Q (.bl (f (decide (x ∈ ts)))) S := by
  have e : ts.map nat = (ts.map fun (i : Nat) => (i : Int)).map D.int := by rw [List.map_map]; rfl
  rw [e, gIn_int]
  have h : decide ((x : Int) ∈ ts.map fun (i : Nat) => (i : Int)) = decide (x ∈ ts) := by
    by_cases h : x ∈ ts
    · rw [decide_eq_true h, decide_eq_true (List.mem_map.mpr ⟨x, h, rfl⟩)]
    · rw [decide_eq_false h, decide_eq_false (fun z => by
        obtain ⟨y, h1, h2⟩ := List.mem_map.mp z
        have : y = x := by omega
        exact h (this ▸ h1))]
  rw [h]
end DL
namespace DL
open PySem PySem.Spec L2
theorem ifS_cut {c : TDT} {t u : TDS} {D : DEnds} {ρ : Rho} {S : Store} (b : Bool) (hc : ∀ Q : Bool → Store → Prop, Q b S → c ρ S Q) (h1 : b = true → t D ρ S) (h2 : b = false → u D ρ S) : tdIfS c t u D ρ S := hc _ (by
  cases b with
  | true => exact iteT (h1 rfl)
  | false => exact iteF (h2 rfl))
end DL
namespace DL
open PySem PySem.Spec L2
theorem gTuple_ref {S : Store} {b : Addr} {ds : List D} {Q : D → Store → Prop} (h : S b = some (.lst ds)) (q : Q (.tup ds) S) : gTuple S [.ref b] Q := by
  show (match vw S (.ref b) with | .lst ds => Q (.tup ds) S | .tup ds => Q (.tup ds) S | _ => False)
  rw [vw_ref h]
  exact q
theorem gTuple_lst {S : Store} {ds : List D} {Q : D → Store → Prop} (q : Q (.tup ds) S) : gTuple S [.lst ds] Q := q
end DL
namespace DL
open PySem PySem.Spec L2
mutual
/-- a value as a nested key -/
def nkD : D → Option NestedKey
  | .non => some .none
  | .bl b => some (.num (if b = true then 1 else 0))
  | .int i => some (.num i)
  | .str t => some (.text (tS t))
  | .tup ds => (nkDs ds).map NestedKey.tup
  | .lst _ => none
  | .scr _ => none
  | .ref _ => none
  | .ty _ => none
  | .dct _ _ => none
  | .ptp ds => (nkDs ds).map NestedKey.tup
def nkDs : List D → Option (List NestedKey)
  | [] => some []
  | d :: ds => (nkD d).bind fun k => (nkDs ds).map (k :: ·)
end
section
variable {K : PySem.W.Frag} {F : Hp}
mutual
theorem nkD_rel : ∀ (d : D) (v : V) (k : NestedKey), RelD K F d v → nkD d = some k → NK K F k v
  | .non, v, k, r, e => by unfold nkD at e; cases e; rw [r.non_e]; exact .none
  | .bl b, v, k, r, e => by unfold nkD at e; cases e; rw [r.bl_e]; exact .bool rfl
  | .int i, v, k, r, e => by unfold nkD at e; cases e; rw [r.int_e]; exact .int i
  | .str t, v, k, r, e => by unfold nkD at e; cases e; rw [r.str_e]; exact .text _
  | .tup ds, v, k, r, e => by
    unfold nkD at e
    obtain ⟨ks, e1, rfl⟩ := Option.map_eq_some_iff.mp e
    obtain ⟨a, vs, rfl, h1, h2⟩ := r.tup_e
    exact .tup h1 (nkDs_rel ds vs ks h2 e1)
  | .lst _, v, k, r, e => by unfold nkD at e; cases e
  | .scr _, v, k, r, e => by unfold nkD at e; cases e
  | .ref _, v, k, r, e => by unfold nkD at e; cases e
  | .ty _, v, k, r, e => by unfold nkD at e; cases e
  | .dct _ _, v, k, r, e => by unfold nkD at e; cases e
  | .ptp ds, v, k, r, e => by
    unfold nkD at e
    obtain ⟨ks, e1, rfl⟩ := Option.map_eq_some_iff.mp e
    obtain ⟨a, o, vs, rfl, h1, _, h2⟩ := r.ptp_e
    exact .tup (.inl (.inr ⟨o, h1⟩)) (nkDs_rel ds vs ks h2 e1)
theorem nkDs_rel : ∀ (ds : List D) (vs : List V) (ks : List NestedKey), RelDs K F ds vs → nkDs ds = some ks → NKs K F ks vs
  | [], vs, ks, r, e => by
    unfold nkDs at e; cases e
    rw [r.nil_inv]; exact .nil
  | d :: ds, vs, ks, r, e => by
    unfold nkDs at e
    obtain ⟨k, e1, e2⟩ := Option.bind_eq_some_iff.mp e
    obtain ⟨ks', e3, rfl⟩ := Option.map_eq_some_iff.mp e2
    obtain ⟨v, q, rfl, h1, h2⟩ := r.cons_inv
    exact .cons (nkD_rel d v k h1 e1) (nkDs_rel ds q ks' h2 e3)
end
/-- the tuple y is the key k -/
def KeyD (y : D) (k : NestedKey) : Prop := nkD y = some k ∧ k.depth ≤ 8 ∧ ∃ ks, k = .tup ks
theorem KeyD.rel {d : D} {k : NestedKey} {v : V} (h : KeyD d k) (r : RelD K F d v) : KeyN K F k v := ⟨nkD_rel d v k r h.1, h.2⟩
theorem relN_keys {H : Hp} (sm : Same F H) : ∀ {kvs : List (NestedKey × D × D)} {xs : XN}, RelN K F kvs xs → ∀ x ∈ xs, KeyN K H x.1 (.ref x.2.1)
  | _, _, .nil, x, hx => nomatch hx
  | p :: _, q :: _, .cons h t, x, hx => by
    rcases List.mem_cons.mp hx with e | hx
    · subst e
      rw [← h.1]
      exact h.2.1.mono sm
    · exact relN_keys sm t x hx
theorem SR.nat {S : Store} {H : Hp} {a : Addr} {w : World} {kvs : List (NestedKey × D × D)} (sr : SR K F S H) (e : S a = some (.dn w a kvs)) : ∃ xs, NAt K w H a xs ∧ RelN K F kvs xs := by
  obtain ⟨xs, h1, h2⟩ := sr.dn e
  exact ⟨xs, ⟨h1, relN_keys sr.fro h2⟩, h2⟩
/-- d[k] = v on the table -/
def setN (kvs : List (NestedKey × D × D)) (k : NestedKey) (y v : D) : List (NestedKey × D × D) := pN (fun p => (p.1, v)) (y, v) kvs k
theorem setN_rel {kvs : List (NestedKey × D × D)} {xs : XN} {k : NestedKey} {b : Addr} {y d : D} {v : V} (h : RelN K F kvs xs) (hk : KeyN K F k (.ref b)) (hy : RelD K F y (.ref b)) (r : RelD K F d v) : RelN K F (setN kvs k y d) (putX xs k b v) :=
  paired_pN (fun p q z => z.1) (fun x y z => ⟨z.1, z.2.1, z.2.2.1, r⟩) ⟨rfl, hk, hy, r⟩ h
end
theorem vN_get {K : PySem.W.Frag} {F : Hp} {kvs : List (NestedKey × D × D)} {xs : XN} {k : NestedKey} {d : D} {y0 : D} (h : RelN K F kvs xs) (e : vN kvs k = some (y0, d)) : ∃ b v, vN xs k = some (b, v) ∧ RelD K F d v := by
  rcases paired_vN (k := k) (fun p q (z : RRN K F p q) => z.1) h with ⟨e1, _⟩ | ⟨x, y, e1, e2, e3⟩
  · rw [e1] at e; cases e
  · rw [e1] at e; cases e
    exact ⟨y.1, y.2, e2, e3.2.2.2⟩
theorem vN_some {K : PySem.W.Frag} {F : Hp} {kvs : List (NestedKey × D × D)} {xs : XN} {k : NestedKey} (h : RelN K F kvs xs) : (vN xs k).isSome = (vN kvs k).isSome := by
  rcases paired_vN (k := k) (fun p q (z : RRN K F p q) => z.1) h with ⟨e1, e2⟩ | ⟨x, y, e1, e2, e3⟩ <;> rw [e1, e2] <;> rfl
section
variable {X : Cx} {F0 : Ent} {e a b c o i : Expr} {t ta tb to ti : TD} {pos pos' : Pos} {w : World}
def tdNGet (w : World) (to ti : TD) : TD := fun ρ S Q => to ρ S fun x S1 => ti ρ S1 fun y S2 => ∃ a kvs k y0 d, x = .ref a ∧ S2 a = some (.dn w a kvs) ∧ KeyD y k ∧ vN kvs k = some (y0, d) ∧ Q d S2
theorem de_nget (hw : X.w = w) (hu : X.A.units + 65 < cLine) (ho : DE X F0 o to) (hi : DE X F0 i ti) (hs : NoSl i := by exact fun _ _ => rfl) : DE X F0 (.Subscript o i pos) (tdNGet w to ti) := by
  subst hw
  exact PE.weak (pe_nget (by omega) ho hi hs) fun σ H Q ⟨F, S, ρ, Q', at0, h, p⟩ => EL.go at0 h fun v1 H1 F1 S1 d1 x1 a1 r1 q1 => EL.go a1 q1 fun v2 H2 F2 S2 d2 x2 a2 r2 ⟨b, kvs, k, y0, d, e1, e2, e3, e4, q⟩ => by
    subst e1
    obtain ⟨xs, h1, h2⟩ := a2.sr.nat e2
    obtain ⟨b0, v, h3, h4⟩ := vN_get h2 e4
    exact ⟨b, xs, k, b0, v, r1.ref_e, h1, (e3.rel r2).mono a2.sr.fro, h3, p.of (x1.trans x2) a2.sr h4 q⟩
def gNIn (w : World) (f : Bool → Bool) : DOp := fun S x y Q => ∃ a kvs k, y = .ref a ∧ S a = some (.dn w a kvs) ∧ KeyD x k ∧ Q (.bl (f (vN kvs k).isSome)) S
theorem od_inN (hw : X.w = w) (hu : X.A.units + 65 < cLine) : OpR X (compareOp .In) (OL X.K (gNIn w id)) := by
  subst hw
  refine OpR.weak (op_nin (by omega)) fun x y H Q ⟨F, S, dx, dy, Q', sr, rx, ry, ⟨b, kvs, k, e1, e2, e3, q⟩, p⟩ => ?_
  subst e1
  obtain ⟨xs, h1, h2⟩ := sr.nat e2
  refine ⟨b, xs, k, ry.ref_e, h1, (e3.rel rx).mono sr.fro, ?_⟩
  rw [vN_some h2]
  exact p.of (Ext.refl _ _ _) sr (.bl_i _) q
theorem od_ninN (hw : X.w = w) (hu : X.A.units + 65 < cLine) : OpR X (compareOp .NotIn) (OL X.K (gNIn w not)) := by
  subst hw
  refine OpR.weak (op_nnin (by omega)) fun x y H Q ⟨F, S, dx, dy, Q', sr, rx, ry, ⟨b, kvs, k, e1, e2, e3, q⟩, p⟩ => ?_
  subst e1
  obtain ⟨xs, h1, h2⟩ := sr.nat e2
  refine ⟨b, xs, k, ry.ref_e, h1, (e3.rel rx).mono sr.fro, ?_⟩
  rw [vN_some h2]
  exact p.of (Ext.refl _ _ _) sr (.bl_i _) q
def tdNPut (w : World) (to ti te : TD) : TDS := fun D ρ S => te ρ S fun v S1 => to ρ S1 fun x S2 => ti ρ S2 fun y S3 => ∃ a kvs k, x = .ref a ∧ S3 a = some (.dn w a kvs) ∧ KeyD y k ∧ kvs.length < sizeLine ∧ D.nx ρ (sup S3 a (.dn w a (setN kvs k y v)))
theorem ds_nput (hw : X.w = w) (hu : X.A.units + 65 < cLine) (ho : DE X F0 o to) (hi : DE X F0 i ti) (he : DE X F0 e t) (hs : swapsWith e (some (.Subscript o i pos')) pos.line X.env = pure false := by rfl) : DS X F0 (.Assign [.Subscript o i pos'] e pos) (tdNPut w to ti t) := by
  subst hw
  exact PS.weak (ps_nput (by omega) ho hi he hs) fun D σ H ⟨F, S, ρ, D', at0, h, p⟩ => EL.go at0 h fun v0 H0 F0 S0 d0 x0 a0 r0 q0 => EL.go a0 q0 fun v1 H1 F1 S1 d1 x1 a1 r1 q1 => EL.go a1 q1 fun v2 H2 F2 S2 d2 x2 a2 r2 ⟨b, kvs, k, e1, e2, e3, hl, q⟩ => by
    subst e1
    obtain ⟨xs, h1, h2⟩ := a2.sr.nat e2
    have hk := e3.rel r2
    obtain ⟨c, rfl⟩ := hk.ref
    refine ⟨b, xs, k, c, r1.ref_e, rfl, h1, hk.mono a2.sr.fro, by rw [← Paired.length h2]; exact hl, ?_⟩
    exact p.1 _ _ _ _ _ (((x0.trans x1).trans x2).trans (a2.sr.ext_write e2)) (a2.sr.write (o := .dn X.w b (setN kvs k d2 d0)) e2 ⟨_, rfl, setN_rel h2 hk r2 (RelD.mono x2.same _ _ (RelD.mono x1.same _ _ r0))⟩) a2.env q
/-- {}, to be such a dict -/
def tdNNew (w : World) : TD := fun _ S Q => ∀ p, S p = none → Q (.ref p) (sup S p (.dn w p []))
theorem de_nnew (hw : X.w = w) : DE X F0 (.Dict [] [] pos) (tdNNew w) := by
  subst hw
  exact PE.weak pe_dnewN fun σ H Q ⟨F, S, ρ, Q', at0, h, p⟩ q hq => p.of (at0.sr.ext_box (o := .dn X.w q []) hq) (at0.sr.box (o := .dn X.w q []) hq ⟨_, rfl, .nil⟩) (.ref_i _) (h q (at0.sr.snone hq))
/-- {} -/
def tdDNew : TD := fun _ S Q => ∀ p, S p = none → Q (.ref p) (sup S p (.dic []))
theorem de_dnew : DE X F0 (.Dict [] [] pos) tdDNew :=
  PE.weak pe_dnewK fun σ H Q ⟨F, S, ρ, Q', at0, h, p⟩ q hq => p.of (at0.sr.ext_box (o := .dic []) hq) (at0.sr.box (o := .dic []) hq ⟨_, rfl, rfl⟩) (.ref_i _) (h q (at0.sr.snone hq))
end
def getF : List DK → List D → DK → Option D
  | k' :: ks, d :: ds, k => if k' = k then some d else getF ks ds k
  | _, _, _ => none
theorem getF_rel {K : PySem.W.Frag} {F : Hp} {k : DK} : ∀ {ks : List DK} {ds : List D} {vs : List V}, vs.length = ks.length → RelDs K F ds vs → (getF ks ds k = none ∧ valV ((ks.map kk).zip vs) (kk k) = none) ∨ ∃ d v, getF ks ds k = some d ∧ valV ((ks.map kk).zip vs) (kk k) = some v ∧ RelD K F d v
  | [], _, _, _, _ => by unfold getF; exact .inl ⟨by first | rfl | (split <;> first | rfl | contradiction), rfl⟩
  | k' :: ks, ds, [], hl, r => by simp at hl
  | k' :: ks, [], v :: vs, hl, r => by
    have := r.nil_inv
    cases this
  | k' :: ks, d :: ds, v :: vs, hl, r => by
    obtain ⟨v', q, e, h1, h2⟩ := r.cons_inv
    injection e with e1 e2
    subst e1 e2
    rw [List.map_cons, List.zip_cons_cons]
    unfold getF
    by_cases z : k' = k
    · rw [if_pos z]
      exact .inr ⟨d, v, rfl, valV_pos (by rw [z]), h1⟩
    · rw [if_neg z, valV_neg (fun y => z (kk_inj y))]
      exact getF_rel (by simpa using hl) h2
section
variable {X : Cx} {F0 : Ent} {e a b c o i : Expr} {t ta tb to ti : TD} {pos pos' : Pos}
def tdFGet (to ti : TD) : TD := fun ρ S Q => to ρ S fun x S1 => ti ρ S1 fun y S2 => ∃ ks ds k d, x = .dct ks ds ∧ y = kD k ∧ getF ks ds k = some d ∧ Q d S2
theorem de_fget (hu : X.A.units + 65 < cLine) (ho : DE X F0 o to) (hi : DE X F0 i ti) (hs : NoSl i := by exact fun _ _ => rfl) : DE X F0 (.Subscript o i pos) (tdFGet to ti) :=
  PE.weak (pe_dget (by omega) ho hi hs) fun σ H Q ⟨F, S, ρ, Q', at0, h, p⟩ => EL.go at0 h fun v1 H1 F1 S1 d1 x1 a1 r1 q1 => EL.go a1 q1 fun v2 H2 F2 S2 d2 x2 a2 r2 ⟨ks, ds, k, d, e1, e2, e3, q⟩ => by
    subst e1 e2
    obtain ⟨b, ob, vs, rfl, h1, h2, h3⟩ := (RelD.mono x2.same _ _ r1).dct_e
    rcases getF_rel (k := k) h2 h3 with ⟨z, _⟩ | ⟨d', v, z, h4, h5⟩
    · rw [z] at e3; cases e3
    · rw [z] at e3; cases e3
      refine ⟨b, v, rfl, .inl ⟨_, kk k, .inr ⟨ob, a2.sr.fro _ _ h1⟩, kD_rel r2, h4.symm⟩, p.of (x1.trans x2) a2.sr h5 q⟩
def gFIn (f : Bool → Bool) : DOp := fun S x y Q => ∃ ks ds k, y = .dct ks ds ∧ x = kD k ∧ Q (.bl (f (getF ks ds k).isSome)) S
theorem fin_case {K : PySem.W.Frag} {F : Hp} {S : Store} {H : Hp} {x y : D} {v u : V} {Q' : D → Store → Prop} {Q : VK} {f : Bool → Bool} (sr : SR K F S H) (rx : RelD K F x v) (ry : RelD K F y u) (h : gFIn f S x y Q') (p : Post K F S H Q' Q) :
    ∃ a o, u = .ref a ∧ DGet H a v o ∧ Q (.bl (f o.isSome)) H := by
  obtain ⟨ks, ds, k, e1, e2, q⟩ := h
  subst e1 e2
  obtain ⟨b, ob, vs, rfl, h1, h2, h3⟩ := ry.dct_e
  refine ⟨b, valV ((ks.map kk).zip vs) (kk k), rfl, .inl ⟨_, kk k, .inr ⟨ob, sr.fro _ _ h1⟩, kD_rel rx, rfl⟩, ?_⟩
  have e : (valV ((ks.map kk).zip vs) (kk k)).isSome = (getF ks ds k).isSome := by
    rcases getF_rel (k := k) h2 h3 with ⟨z, z2⟩ | ⟨d', v, z, h4, h5⟩
    · rw [z, z2]; rfl
    · rw [z, h4]; rfl
  rw [e]
  exact p.of (Ext.refl _ _ _) sr (.bl_i _) q
theorem od_inF (hu : X.A.units + 65 < cLine) : OpR X (compareOp .In) (OL X.K (gFIn id)) := by
  intro pins s σ H x y v u Q I rx ry ⟨F, S, dx, dy, Q', sr, r1, r2, g, p⟩
  obtain ⟨a, o, rfl, g, q⟩ := fin_case sr r1 r2 g p
  obtain rfl : u = Value.ref a := ry
  exact d_in (by omega) I g rx fun s3 I3 => ⟨.bl o.isSome, H, I3, rfl, q⟩
theorem od_ninF (hu : X.A.units + 65 < cLine) : OpR X (compareOp .NotIn) (OL X.K (gFIn not)) := by
  intro pins s σ H x y v u Q I rx ry ⟨F, S, dx, dy, Q', sr, r1, r2, g, p⟩
  obtain ⟨a, o, rfl, g, q⟩ := fin_case sr r1 r2 g p
  obtain rfl : u = Value.ref a := ry
  exact d_notIn (by omega) I g rx fun s3 I3 => ⟨.bl (!o.isSome), H, I3, rfl, q⟩
/-- for k in d -/
theorem Iters.keysF {K : PySem.W.Frag} {F : Hp} {a : Addr} {ob : Obj} {ks : List DK} {vs : List V} (h : F a = some (.frz ob (.dK ((ks.map kk).zip vs)))) (hl : vs.length = ks.length) : Iters K F (Itk a ob ((ks.map kk).zip vs)) (ks.map kD) where
  go := fun i H sm hi => by
    rw [List.length_map] at hi
    refine ⟨sm _ _ h, ?_⟩
    rw [List.length_zip, List.length_map]; omega
  stop := fun i H sm hi => by
    rw [List.length_map] at hi
    refine ⟨sm _ _ h, ?_⟩
    rw [List.length_zip, List.length_map]; omega
  yld := fun i x H H' F2 S sm sr y hi => by
    rw [List.length_map] at hi
    obtain ⟨rfl, k, v, e1, rfl⟩ := y
    have hki : (ks.map kD)[i]? = some (kD ks[i]) := by rw [List.getElem?_map, List.getElem?_eq_getElem hi]; rfl
    refine ⟨F2, kD ks[i], Ext.refl _ _ _, sr, hki, ?_⟩
    have e2 : k = kk ks[i] := by
      have e3 := (List.getElem?_zip_eq_some.mp e1).1
      rw [List.getElem?_map, List.getElem?_eq_getElem hi] at e3
      exact (Option.some.inj e3).symm
    rw [e2]
    exact kV_rel _
def tdiF (t : TD) : TDI := fun ρ S Q => t ρ S fun d S1 => ∃ ks ds, d = .dct ks ds ∧ Q (ks.map kD) S1
theorem di_F {tg : Expr} (he : DE X F0 e t) : DI X F0 tg e (tdiF t) :=
  PI.weak (pi_keys he) fun σ H R ⟨F, S, ρ, Q', a, h, pp⟩ => EL.go a h fun v H1 F1 S1 d x1 a1 r1 ⟨ks, ds, e1, q⟩ => by
    subst e1
    obtain ⟨b, ob, vs, rfl, h1, h2, h3⟩ := r1.dct_e
    exact ⟨b, ob, rfl, .inl ⟨_, a1.sr.fro _ _ h1, pp _ _ _ _ _ x1 a1.sr (.keysF h1 h2) q⟩⟩
/-- a written dict, from here on it stays -/
def tLocked (t : TE) : TE := fun σ H Q => t σ H fun v H1 => ∃ d kvs, v = .ref d ∧ H1 d = some (.dK kvs) ∧ ∀ od, Q v (upd H1 d (.frz od (.dK kvs)))
theorem pe_locked {t : TE} (h : PE X e t) : PE X e (tLocked t) := ⟨fun pins s σ H Q I q => thn (h.run pins s σ H _ I q) fun u s1 ⟨v, H1, I1, r, d, kvs, e1, e2, q1⟩ => by
  obtain ⟨od, I2⟩ := I1.lock e2 True.intro
  exact ⟨v, _, I2, r, q1 od⟩⟩
/-- keys that are all different, and their values -/
def splitK : List (D × D) → Option (List DK × List D)
  | [] => some ([], [])
  | (.int i, d) :: r => (splitK r).map fun p => (.inl i :: p.1, d :: p.2)
  | (.str t, d) :: r => (splitK r).map fun p => (.inr t :: p.1, d :: p.2)
  | _ => none
end
end DL
namespace DL
open PySem PySem.Spec L2
theorem splitK_rel {K : PySem.W.Frag} {F : Hp} : ∀ {ps : List (D × D)} {ws : List (V × V)} {ks : List DK} {ds : List D}, RelPs K F ps ws → splitK ps = some (ks, ds) →
    ∃ vs : List V, vs.length = ks.length ∧ RelDs K F ds vs ∧ ws = ((ks.map kk).zip vs).map (fun kv => (kV kv.1, kv.2))
  | [], _, _, _, h, e => by
    unfold splitK at e; cases e
    rw [show _ = _ from h]
    exact ⟨[], rfl, .nil, rfl⟩
  | (x, y) :: r, _, ks, ds, h, e => by
    obtain ⟨v, w, q, rfl, h1, h2, h3⟩ := h
    cases x with
    | int i =>
      unfold splitK at e
      obtain ⟨⟨ks', ds'⟩, e1, e2⟩ := Option.map_eq_some_iff.mp e
      cases e2
      obtain ⟨vs, k1, k2, k3⟩ := splitK_rel h3 e1
      obtain rfl := h1.int_e
      exact ⟨w :: vs, by simp [k1], .cons h2 k2, by rw [k3]; rfl⟩
    | str t =>
      unfold splitK at e
      obtain ⟨⟨ks', ds'⟩, e1, e2⟩ := Option.map_eq_some_iff.mp e
      cases e2
      obtain ⟨vs, k1, k2, k3⟩ := splitK_rel h3 e1
      obtain rfl := h1.str_e
      exact ⟨w :: vs, by simp [k1], .cons h2 k2, by rw [k3]; rfl⟩
    | _ => unfold splitK at e; cases e
theorem valV_out {κ : Type} [DecidableEq κ] {k : κ} : ∀ {l : List (κ × V)}, k ∉ l.map (·.1) → valV l k = none
  | [], _ => rfl
  | p :: l, h => by
    rw [List.map_cons, List.mem_cons] at h
    rw [valV_neg fun z => h (.inl z.symm)]
    exact valV_out fun z => h (.inr z)
theorem mergeK_nodup : ∀ (l acc : List (Key × V)), ((acc ++ l).map (·.1)).Nodup → mergeK acc l = acc ++ l
  | [], acc, _ => by rw [List.append_nil]; rfl
  | p :: l, acc, h => by
    show mergeK (putK acc p.1 p.2) l = _
    have hn : p.1 ∉ acc.map (·.1) := fun z => by
      rw [List.map_append, List.map_cons] at h
      exact (List.nodup_append.mp h).2.2 _ z _ List.mem_cons_self rfl
    rw [putK_new _ (valV_out hn)]
    rw [mergeK_nodup l _ (by rw [List.append_assoc]; exact h), List.append_assoc]
    rfl
theorem zip_fst {α β : Type} : ∀ {l : List α} {m : List β}, m.length = l.length → (l.zip m).map (·.1) = l
  | [], _, _ => rfl
  | a :: l, [], h => by simp at h
  | a :: l, b :: m, h => by rw [List.zip_cons_cons, List.map_cons, zip_fst (by simpa using h)]
theorem kk_nodup {ks : List DK} (h : ks.Nodup) : (ks.map kk).Nodup := by
  induction ks with
  | nil => exact List.nodup_nil
  | cons k ks ih =>
    rw [List.nodup_cons] at h
    rw [List.map_cons, List.nodup_cons]
    refine ⟨fun z => ?_, ih h.2⟩
    obtain ⟨k', h1, h2⟩ := List.mem_map.mp z
    exact h.1 (kk_inj h2 ▸ h1)
section
variable {X : Cx} {F0 : Ent} {e a b c o i : Expr} {t ta tb to ti : TD} {pos pos' : Pos} {w : World}
def tdDctF (trs : List (TD × TD)) : TD := fun ρ S Q => tdPairs trs ρ S fun ps S2 => ∃ ks ds, splitK ps = some (ks, ds) ∧ ks.Nodup ∧ ks.length ≤ 15 ∧ Q (.dct ks ds) S2
theorem de_dctF {keys : List (Option Expr)} {values : List Expr} {trs : List (TD × TD)} (h : DPs X F0 pos keys values trs) (hall : keys.all (·.isSome) = true := by rfl) (hl : keys.length = values.length := by rfl) (h0 : keys ≠ [] := by exact fun z => nomatch z) (h15 : keys.length ≤ 15 := by decide) : DE X F0 (.Dict keys values pos) (tdDctF trs) :=
  PE.weak (pe_locked (pe_disp h.pps hall hl h0 h15)) fun σ H Q ⟨F, S, ρ, Q', a, h, p⟩ pp hp => by
    have al : At X.K F0 F S (upd H pp (.dK [])) ρ σ := ⟨a.f0.trans (Ext.laid hp), a.sr.laid hp, a.env⟩
    refine pairs_go al h fun ws H1 F1 S1 ps x1 a1 r1 ⟨ks, ds, e1, e2, e3, q⟩ => ?_
    obtain ⟨nF, nS, hH⟩ := x1.laid_none a.sr hp
    obtain ⟨vs, k1, k2, k3⟩ := splitK_rel r1 e1
    refine ⟨hH, (ks.map kk).zip vs, k3, by rw [List.length_zip, List.length_map]; omega, pp, _, rfl, upd_same, fun od => ?_⟩
    rw [upd_upd]
    have em : mergeK [] ((ks.map kk).zip vs) = (ks.map kk).zip vs := by
      rw [mergeK_nodup _ _ (by rw [List.nil_append, zip_fst (by simpa using k1)]; exact kk_nodup e2)]
      rfl
    rw [em]
    obtain ⟨k4, k5⟩ := a1.sr.adoptF (ho := .frz od (.dK ((ks.map kk).zip vs))) nF nS
    exact p.of (x1.adoptF hp nF) k4 (.dct_i upd_same k1 (RelDs.mono k5 _ _ k2)) q
def dcR (v : Nat) (tt : TDT) (tk te : TD) (ρ : Rho) : List D → List (DK × D) → Store → (List (DK × D) → Store → Prop) → Prop
  | [], acc, S, Q => Q acc S
  | d :: ds, acc, S, Q => tt (ρ.set v (some d)) S fun b S1 => if b = true then tk (ρ.set v (some d)) S1 fun y S2 => te (ρ.set v (some d)) S2 fun z S3 => ∃ k, y = kD k ∧ acc.length < sizeLine ∧ dcR v tt tk te ρ ds (putD acc k z) S3 Q else dcR v tt tk te ρ ds acc S1 Q
def tdDc (ti : TDI) (v : Nat) (tt : TDT) (tk te : TD) : TD := fun ρ S Q => ti ρ S fun ds S1 => dcR v tt tk te ρ ds [] S1 fun kvs S2 => ∀ p, S2 p = none → Q (.ref p) (sup S2 p (.dic kvs))
theorem dc_go {ti : TDI} {v : Nat} {tt : TDT} {tk te : TD} {K : PySem.W.Frag} {σ : L2.St} {H : Hp} {Q : VK} (h : EL K F0 (tdDc ti v tt tk te) σ H Q) : tDc (IL K F0 ti) (gName v) (TL K F0 tt) (EL K F0 tk) (EL K F0 te) [v] σ H Q := by
  obtain ⟨F, S, ρ, Q', a, h, p⟩ := h
  refine IL.go a h fun J H1 F1 S1 ds x1 a1 it q1 D hD => ?_
  refine ⟨fun i m H => m = ds.length - i ∧ i ≤ ds.length ∧ ∃ F S acc vs, Ext F1 S1 (upd H1 D (.dK vs)) F S H ∧ SR K F S H ∧ RelF K F (kmap acc) vs ∧ dcR v tt tk te ρ (ds.drop i) acc S fun kvs S2 => ∀ p, S2 p = none → Q' (.ref p) (sup S2 p (.dic kvs)),
    ⟨ds.length, by omega, Nat.zero_le _, F1, S1, [], [], Ext.refl _ _ _, a1.sr.laid hD, rfl, q1⟩, ?_⟩
  rintro i m H2 ⟨rfl, hi, F2, S2, acc, vs, x2, sr2, racc, q2⟩
  have sm : Same F1 H2 := x2.same.trans sr2.fro
  obtain ⟨nF, nS, hH⟩ := x2.laid_none a1.sr hD
  by_cases hlt : i < ds.length
  · refine .inr ⟨it.go i H2 sm hlt, fun H => ∃ F S acc vs, Ext F1 S1 (upd H1 D (.dK vs)) F S H ∧ SR K F S H ∧ RelF K F (kmap acc) vs ∧ dcR v tt tk te ρ (ds.drop (i + 1)) acc S fun kvs S2 => ∀ p, S2 p = none → Q' (.ref p) (sup S2 p (.dic kvs)), fun H' n => ⟨ds.length - (i + 1), by omega, rfl, hlt, n⟩, fun x H' y => ?_⟩
    obtain ⟨F3, d, x3, sr3, hd, rd⟩ := it.yld i x H2 H' F2 S2 x2.same sr2 y hlt
    have e : ds.drop i = d :: ds.drop (i + 1) := by
      rw [List.drop_eq_getElem_cons hlt]
      congr 1
      rw [List.getElem?_eq_getElem hlt] at hd
      exact Option.some.inj hd
    rw [e] at q2
    have x13 : Ext F1 S1 (upd H1 D (.dK vs)) F3 S2 H' := x2.trans x3
    have a3 : At K F0 F3 S2 H' (ρ.set v (some d)) ((wipe σ [v]).set v (some x)) := by
      refine ⟨a1.f0.trans ((Ext.laid hD).trans x13), sr3, ?_⟩
      have h0 : (wipe σ [v]).set v (some x) = σ.set v (some x) := by
        show (σ.set v none).set v (some x) = _
        rw [List.set_set]
      rw [h0]
      exact (a1.env.mono x13.same).set rd v
    refine ⟨?_, ?_⟩
    · show ((σ.set v none).set v (some x)).set v none = σ.set v none
      rw [List.set_set, List.set_set]
    · refine TL.go a3 q2 fun b H4 F4 S4 x4 a4 q4 => ?_
      cases b with
      | false => exact iteF ⟨F4, S4, acc, vs, x13.trans x4, a4.sr, (racc.mono x3.same).mono x4.same, q4⟩
      | true =>
        refine iteT (EL.go a4 q4 fun w H5 F5 S5 yd x5 a5 r5 q5 => EL.go a5 q5 fun w6 H6 F6 S6 zd x6 a6 r6 ⟨k, ek, hl, q6⟩ => ?_)
        subst ek
        have x16 := ((x13.trans x4).trans x5).trans x6
        obtain ⟨nF6, nS6, hH6⟩ := x16.laid_none a1.sr hD
        have racc6 := (((racc.mono x3.same).mono x4.same).mono x5.same).mono x6.same
        refine ⟨vs, kk k, kD_rel r5, hH6, by rw [racc6.length, List.length_map]; exact hl, ?_⟩
        exact ⟨F6, S6, putD acc k zd, putK vs (kk k) w6, Ext.reset (K := K) x16, a6.sr.re nF6 nS6, putD_rel r6 racc6, q6⟩
  · refine .inl ⟨it.stop i H2 sm (by omega), ?_⟩
    rw [List.drop_eq_nil_of_le (by omega)] at q2
    have k1 := sr2.adoptS (F := F2) (o := .dic acc) (ho := .dK vs) nF ⟨_, rfl, racc⟩
    have k3 := x2.adoptS (o := .dic acc) (ho := .dK vs) hD
    rw [upd_id hH] at k1 k3
    exact p.of (x1.trans k3) k1 (.ref_i _) (q2 D nS)
theorem de_dc {kx vx iter : Expr} {ifs : List Expr} {scope : Scope} {x : Str} {xp : Pos} {v : Nat} {ti : TDI} {tt : TDT} {tk te : TD} (hc : X.calm = true) (hN : X.N.Nodup) (hi : DI X F0 (.Name x xp) iter ti) (ok : BlkOk X.N X.env.scope scope [(x, v)])
    (hg : ∀ (s : Shared) (H : Hp) (C : Addr) (cl : List (Str × Addr)) (fp : List Addr), PG (X.blk s H scope (compEnvC scope cl C X.env) fp) (.Name x xp) (gName v))
    (ht : ∀ (s : Shared) (H : Hp) (C : Addr) (cl : List (Str × Addr)) (fp : List Addr), DTs (X.blk s H scope (compEnvC scope cl C X.env) fp) F0 ifs tt)
    (hk : ∀ (s : Shared) (H : Hp) (C : Addr) (cl : List (Str × Addr)) (fp : List Addr), DE (X.blk s H scope (compEnvC scope cl C X.env) fp) F0 kx tk)
    (he : ∀ (s : Shared) (H : Hp) (C : Addr) (cl : List (Str × Addr)) (fp : List Addr), DE (X.blk s H scope (compEnvC scope cl C X.env) fp) F0 vx te) (hs : ∀ x, foldedSetIterable iter X.env x = pure x := by intro _; rfl) :
    DE X F0 (.DictComp kx vx [⟨.Name x xp, iter, ifs, 0⟩] scope pos) (tdDc ti v tt tk te) :=
  PE.weak (pe_dc (own := [(x, v)]) (tt := TL X.K F0 tt) (tk := EL X.K F0 tk) (tv := EL X.K F0 te) hc hN hi ok hg ht hk he hs) fun σ H Q h => dc_go h
/-- .. keys nested tuples -/
def dnR (v : Nat) (tt : TDT) (tk te : TD) (ρ : Rho) : List D → List (NestedKey × D × D) → Store → (List (NestedKey × D × D) → Store → Prop) → Prop
  | [], acc, S, Q => Q acc S
  | d :: ds, acc, S, Q => tt (ρ.set v (some d)) S fun b S1 => if b = true then tk (ρ.set v (some d)) S1 fun y S2 => te (ρ.set v (some d)) S2 fun z S3 => ∃ k, KeyD y k ∧ acc.length < sizeLine ∧ dnR v tt tk te ρ ds (setN acc k y z) S3 Q else dnR v tt tk te ρ ds acc S1 Q
def tdDcN (w : World) (ti : TDI) (v : Nat) (tt : TDT) (tk te : TD) : TD := fun ρ S Q => ti ρ S fun ds S1 => dnR v tt tk te ρ ds [] S1 fun kvs S2 => ∀ p, S2 p = none → Q (.ref p) (sup S2 p (.dn w p kvs))
theorem dn_go {ti : TDI} {v : Nat} {tt : TDT} {tk te : TD} {K : PySem.W.Frag} {σ : L2.St} {H : Hp} {Q : VK} (h : EL K F0 (tdDcN w ti v tt tk te) σ H Q) : tDcN K w (IL K F0 ti) (gName v) (TL K F0 tt) (EL K F0 tk) (EL K F0 te) [v] σ H Q := by
  obtain ⟨F, S, ρ, Q', a, h, p⟩ := h
  refine IL.go a h fun J H1 F1 S1 ds x1 a1 it q1 D hD => ?_
  refine ⟨fun i m H => m = ds.length - i ∧ i ≤ ds.length ∧ ∃ F S acc vs, Ext F1 S1 (upd H1 D (NObj w D vs)) F S H ∧ SR K F S H ∧ RelN K F acc vs ∧ dnR v tt tk te ρ (ds.drop i) acc S fun kvs S2 => ∀ p, S2 p = none → Q' (.ref p) (sup S2 p (.dn w p kvs)),
    ⟨ds.length, by omega, Nat.zero_le _, F1, S1, [], [], Ext.refl _ _ _, a1.sr.laid hD, .nil, q1⟩, ?_⟩
  rintro i m H2 ⟨rfl, hi, F2, S2, acc, vs, x2, sr2, racc, q2⟩
  have sm : Same F1 H2 := x2.same.trans sr2.fro
  obtain ⟨nF, nS, hH⟩ := x2.laid_none a1.sr hD
  by_cases hlt : i < ds.length
  · refine .inr ⟨it.go i H2 sm hlt, fun H => ∃ F S acc vs, Ext F1 S1 (upd H1 D (NObj w D vs)) F S H ∧ SR K F S H ∧ RelN K F acc vs ∧ dnR v tt tk te ρ (ds.drop (i + 1)) acc S fun kvs S2 => ∀ p, S2 p = none → Q' (.ref p) (sup S2 p (.dn w p kvs)), fun H' n => ⟨ds.length - (i + 1), by omega, rfl, hlt, n⟩, fun x H' y => ?_⟩
    obtain ⟨F3, d, x3, sr3, hd, rd⟩ := it.yld i x H2 H' F2 S2 x2.same sr2 y hlt
    have e : ds.drop i = d :: ds.drop (i + 1) := by
      rw [List.drop_eq_getElem_cons hlt]
      congr 1
      rw [List.getElem?_eq_getElem hlt] at hd
      exact Option.some.inj hd
    rw [e] at q2
    have x13 : Ext F1 S1 (upd H1 D (NObj w D vs)) F3 S2 H' := x2.trans x3
    have a3 : At K F0 F3 S2 H' (ρ.set v (some d)) ((wipe σ [v]).set v (some x)) := by
      refine ⟨a1.f0.trans ((Ext.laid hD).trans x13), sr3, ?_⟩
      have h0 : (wipe σ [v]).set v (some x) = σ.set v (some x) := by
        show (σ.set v none).set v (some x) = _
        rw [List.set_set]
      rw [h0]
      exact (a1.env.mono x13.same).set rd v
    refine ⟨?_, ?_⟩
    · show ((σ.set v none).set v (some x)).set v none = σ.set v none
      rw [List.set_set, List.set_set]
    · refine TL.go a3 q2 fun b H4 F4 S4 x4 a4 q4 => ?_
      cases b with
      | false => exact iteF ⟨F4, S4, acc, vs, x13.trans x4, a4.sr, RelN.mono x4.same (RelN.mono x3.same racc), q4⟩
      | true =>
        refine iteT (EL.go a4 q4 fun v5 H5 F5 S5 yd x5 a5 r5 q5 => EL.go a5 q5 fun v6 H6 F6 S6 zd x6 a6 r6 ⟨k, ek, hl, q6⟩ => ?_)
        have x16 := ((x13.trans x4).trans x5).trans x6
        obtain ⟨nF6, nS6, hH6⟩ := x16.laid_none a1.sr hD
        have racc6 := RelN.mono x6.same (RelN.mono x5.same (RelN.mono x4.same (RelN.mono x3.same racc)))
        have hk := ek.rel (RelD.mono x6.same _ _ r5)
        obtain ⟨c, rfl⟩ := hk.ref
        refine ⟨vs, k, c, rfl, ⟨hH6, relN_keys a6.sr.fro racc6⟩, hk.mono a6.sr.fro, by rw [← Paired.length racc6]; exact hl, ?_⟩
        exact ⟨F6, S6, setN acc k yd zd, putX vs k c v6, Ext.reset (K := K) x16, a6.sr.re nF6 nS6, setN_rel racc6 hk (RelD.mono x6.same _ _ r5) r6, q6⟩
  · refine .inl ⟨it.stop i H2 sm (by omega), ?_⟩
    rw [List.drop_eq_nil_of_le (by omega)] at q2
    have k1 := sr2.adoptS (F := F2) (o := .dn w D acc) (ho := NObj w D vs) nF ⟨_, rfl, racc⟩
    have k3 := x2.adoptS (o := .dn w D acc) (ho := NObj w D vs) hD
    rw [upd_id hH] at k1 k3
    exact p.of (x1.trans k3) k1 (.ref_i _) (q2 D nS)
theorem de_dcN {kx vx iter : Expr} {ifs : List Expr} {scope : Scope} {x : Str} {xp : Pos} {v : Nat} {ti : TDI} {tt : TDT} {tk te : TD} (hw : X.w = w) (hu : X.A.units + 65 < cLine) (hc : X.calm = true) (hN : X.N.Nodup) (hi : DI X F0 (.Name x xp) iter ti) (ok : BlkOk X.N X.env.scope scope [(x, v)])
    (hg : ∀ (s : Shared) (H : Hp) (C : Addr) (cl : List (Str × Addr)) (fp : List Addr), PG (X.blk s H scope (compEnvC scope cl C X.env) fp) (.Name x xp) (gName v))
    (ht : ∀ (s : Shared) (H : Hp) (C : Addr) (cl : List (Str × Addr)) (fp : List Addr), DTs (X.blk s H scope (compEnvC scope cl C X.env) fp) F0 ifs tt)
    (hk : ∀ (s : Shared) (H : Hp) (C : Addr) (cl : List (Str × Addr)) (fp : List Addr), DE (X.blk s H scope (compEnvC scope cl C X.env) fp) F0 kx tk)
    (he : ∀ (s : Shared) (H : Hp) (C : Addr) (cl : List (Str × Addr)) (fp : List Addr), DE (X.blk s H scope (compEnvC scope cl C X.env) fp) F0 vx te) (hs : ∀ x, foldedSetIterable iter X.env x = pure x := by intro _; rfl) :
    DE X F0 (.DictComp kx vx [⟨.Name x xp, iter, ifs, 0⟩] scope pos) (tdDcN w ti v tt tk te) := by
  subst hw
  exact PE.weak (pe_dcN (own := [(x, v)]) (tt := TL X.K F0 tt) (tk := EL X.K F0 tk) (tv := EL X.K F0 te) (by omega) hc hN hi ok hg ht hk he hs) fun σ H Q h => dn_go h
def tdTru (t : TD) : TDT := fun ρ S Q => t ρ S fun d S1 => ∃ ds, vw S1 d = .lst ds ∧ Q (!ds.isEmpty) S1
theorem dt_tru (h : DE X F0 e t) (he : ∀ whole, isTrue e X.env whole = (do let v ← whole; standAt e.pos; holding [v] (truthy v)) := by intro _; rfl) : DT X F0 e (tdTru t) :=
  PT.weak (pt_truth h he) fun σ H Q ⟨F, S, ρ, Q', at0, h, p⟩ => EL.go at0 h fun v H1 F1 S1 d x1 a1 r1 ⟨ds, e1, q⟩ => by
    obtain ⟨b, vs, rfl, h1, h2⟩ := vw_lst a1.sr r1 e1
    refine ⟨!vs.isEmpty, .inl ⟨vs, .of h1, rfl⟩, ?_⟩
    have e2 : vs.isEmpty = ds.isEmpty := by
      have := h2.length
      cases vs <;> cases ds <;> simp_all
    rw [e2]
    exact p _ _ _ _ x1 a1.sr q
end
end DL
namespace DL
open PySem PySem.Spec PyProof.Rows L2 HT
section
variable {prog : Program} {w : World} {A : Around} {E : Value → Shared → Prop} {s : Shared}
theorem noI_tuple_add : typeLookup (.type "tuple") (dunderI "add") = pure none := by rw [typeLookup_type, builtinLookup_eq_fast]; kernel_rfl
theorem iconcat {T id : String} {B : Builtin} {a b : Value} {S : PySem.Spec} {Q : Value → Shared → Prop} (ha : s.TypeIs a T) (hb : s.TypeIs b T) (hno : typeLookup (.type T) (dunderI "add") = pure none)
    (hfill : fillsNumberSlot (.type T) "add" = pure false) (hseq : seqSlot? (.type T) "__add__" = pure (some (.builtin id))) (slot : Slot T "__add__" id)
    (entry : entryFor table id = some B) (args : argsOk id ⟨[a, b], []⟩) (g : Meets (B ⟨[a, b], []⟩) S) (h : S A (wants Q E) s) : wpAny (model prog w) A (inplaceOp .Add a b) Q E s :=
  wpAny_inplaceOp_concat ha hb hno hfill hseq (call_meets slot ha entry args g h)
theorem icat_tup {t b : Addr} {vs ws : List Value} {Q : Value → Shared → Prop} (ht : IsTup s.heap t vs.toArray) (hb : IsTup s.heap b ws.toArray)
    (h0 : vs = [] → Q (.ref b) s) (h1 : vs ≠ [] → ws = [] → Q (.ref t) s) (h2 : vs ≠ [] → ws ≠ [] → Q (.ref s.heap.objs.size) { s with heap := s.heap.push { cls := .type "tuple", data := .seq (vs ++ ws).toArray } })
    (hsz : vs.length + ws.length ≤ sizeLine) : wpAny (model prog w) A (inplaceOp .Add (.ref t) (.ref b)) Q E s := by
  obtain ⟨⟨cls, dd, data, sl⟩, ho, hc, n, hd⟩ := id ht
  obtain ⟨⟨cls2, dd2, data2, sl2⟩, ho2, hc2, n2, hd2⟩ := id hb
  simp only at hc hd hc2 hd2
  subst hc hd hc2 hd2
  have e : vs.toArray ++ ws.toArray = (vs ++ ws).toArray := by simp
  by_cases hv : vs = []
  · subst hv
    exact iconcat ⟨_, ho, rfl⟩ ⟨_, ho2, rfl⟩ noI_tuple_add noFill_tuple_add seq_tuple_add PySem.F.slot_tuple_add PySem.F.entry_tuple_add (PySem.F.args_tuple_add_2 _ _)
      (tuple_addW0 t b ([] : List Value).toArray ws.toArray n n2 dd dd2 sl sl2 (by simp)) ⟨ho, ho2, h0 rfl⟩
  · by_cases hw : ws = []
    · exact iconcat ⟨_, ho, rfl⟩ ⟨_, ho2, rfl⟩ noI_tuple_add noFill_tuple_add seq_tuple_add PySem.F.slot_tuple_add PySem.F.entry_tuple_add (PySem.F.args_tuple_add_2 _ _)
        (tuple_addW1 t b vs.toArray ws.toArray n n2 dd dd2 sl sl2 (by simpa using hv) (by simp [hw])) ⟨ho, ho2, h1 hv hw⟩
    · refine iconcat ⟨_, ho, rfl⟩ ⟨_, ho2, rfl⟩ noI_tuple_add noFill_tuple_add seq_tuple_add PySem.F.slot_tuple_add PySem.F.entry_tuple_add (PySem.F.args_tuple_add_2 _ _)
        (tuple_addW2 t b vs.toArray ws.toArray n n2 dd dd2 sl sl2 (by simpa using hv) (by simpa using hw) (by rw [List.size_toArray, List.size_toArray]; exact hsz)) ⟨ho, ho2, ?_⟩
      rw [e]
      exact h2 hv hw
end
section
variable {X : Cx} {F0 : Ent} {e a b c o i : Expr} {t ta tb to ti : TD} {pos pos' : Pos} {w : World}
/-- t += u, tuples -/
def gTupTup : DOp := fun S x y Q => ∃ xs ys, x = .tup xs ∧ y = .tup ys ∧ xs.length + ys.length ≤ sizeLine ∧ Q (.tup (xs ++ ys)) S
theorem in_addT : InOp X .Add (OL X.K gTupTup) := by
  rintro pins s σ H x y u v Q I rx ry ⟨F, S, dx, dy, Q', sr, r1, r2, ⟨xs, ys, rfl, rfl, hl, q⟩, p⟩
  have r1' := r1
  have r2' := r2
  obtain ⟨a, vs, rfl, h1, k1⟩ := r1.tup_e
  obtain ⟨b, us, rfl, h2, k2⟩ := r2.tup_e
  obtain rfl : u = Value.ref a := rx
  obtain rfl : v = Value.ref b := ry
  have h1H := seqT sr.fro h1
  have h2H := seqT sr.fro h2
  obtain ⟨its, rv1, p1, _⟩ := I.tuple h1H
  obtain ⟨its2, rv2, p2, _⟩ := I.tuple h2H
  have l1 := rv1.length
  have l2 := rv2.length
  have e1 := k1.length
  have e2 := k2.length
  refine icat_tup p1 p2 (fun z => ?_) (fun z z2 => ?_) (fun z z2 => ?_) (by omega)
  · have : xs = [] := List.length_eq_zero_iff.mp (by rw [← e1, l1, z]; rfl)
    subst this
    exact ⟨.ref b, H, I, rfl, p.of (Ext.refl _ _ _) sr r2' q⟩
  · have : ys = [] := List.length_eq_zero_iff.mp (by rw [← e2, l2, z2]; rfl)
    subst this
    rw [List.append_nil] at q
    exact ⟨.ref a, H, I, rfl, p.of (Ext.refl _ _ _) sr r1' q⟩
  · have nH : H s.heap.objs.size = none := I.hok.fresh (Nat.le_refl _)
    have hz : (vs ++ us).length ≤ sizeLine := by rw [List.length_append]; omega
    refine ⟨.ref s.heap.objs.size, upd H s.heap.objs.size (.tup (vs ++ us)), ?_, rfl, p.of (sr.ext_frz nH) (sr.frz nH) (.tup_i (.inl (.inl upd_same)) (RelDs.mono (sr.same_frz nH) _ _ (k1.append k2))) q⟩
    exact I.laid (t' := s.toks) (fun _ _ q => Heap.get?_push_of_some _ q) (Nat.le_refl _) ⟨hz, its ++ its2, rv1.append rv2, _, Heap.get?_push_size _ rfl, rfl, 0, rfl⟩
/-- d[k] op= v, by any rule -/
def tdDAugG (to ti te : TD) (g : DOp) : TDS := fun D ρ S => to ρ S fun x S1 => ti ρ S1 fun y S2 => ∃ a kvs k n, x = .ref a ∧ S2 a = some (.dic kvs) ∧ y = kD k ∧ valD kvs k = some n ∧
  te ρ S2 fun z S3 => g S3 n z fun r S4 => ∃ kvs', S4 a = some (.dic kvs') ∧ kvs'.length < sizeLine ∧ D.nx ρ (sup S4 a (.dic (putD kvs' k r)))
theorem ds_daugG {op : Operator} {g : DOp} (hu : X.A.units + 65 < cLine) (ho : DE X F0 o to) (hi : DE X F0 i ti) (he : DE X F0 e t) (hop : InOp X op (OL X.K g))
    (ha : ∀ ov iv new, augStore i ov iv new = (do holding [new, ov, iv] (setItem ov iv new); release [new, ov, iv] []; pure .next) := by intros; rfl) : DS X F0 (.AugAssign (.Subscript o i pos') op e pos) (tdDAugG to ti t g) :=
  PS.weak (ps_daug (by omega) ho hi he hop ha) fun D σ H ⟨F, S, ρ, D', at0, h, p⟩ => EL.go at0 h fun v1 H1 F1 S1 d1 x1 a1 r1 q1 => EL.go a1 q1 fun v2 H2 F2 S2 d2 x2 a2 r2 ⟨b, kvs, k, n, e1, e2, e3, e4, q⟩ => by
    subst e1; subst e3
    obtain ⟨ws, h1, h2⟩ := a2.sr.dic e2
    obtain ⟨v, h3, h4⟩ := valD_rel h2 e4
    refine ⟨b, v, r1.ref_e, ?_, EL.go a2 q fun v3 H3 F3 S3 d3 x3 a3 r3 q3 => ?_⟩
    · rw [kD_rel r2, ← h3]; exact DGet.k h1
    · refine ⟨F3, S3, n, d3, _, a3.sr, RelD.mono x3.same _ _ h4, r3, q3, fun v4 H4 F4 S4 d4 x4 sr4 r4 ⟨kvs', e6, hl, q4⟩ => ?_⟩
      obtain ⟨us, h5, h6⟩ := sr4.dic e6
      refine ⟨upd H4 b (.dK (putK us (kk k) v4)), ?_, p.1 _ _ _ _ _ ((((x1.trans x2).trans x3).trans x4).trans (sr4.ext_write e6)) (sr4.write (o := .dic (putD kvs' k d4)) e6 ⟨_, rfl, putD_rel r4 h6⟩) (a3.env.mono x4.same) q4⟩
      rw [kD_rel r2]
      exact DPut.k h5 (by rw [h6.length, List.length_map]; exact hl)
end
end DL
namespace DL
open PySem PySem.Spec L2
section
variable {X : Cx} {F0 : Ent} {pos : Pos}
def lc2R (v v1 : Nat) (ti1 : TDI) (te : TD) (ρ : Rho) : List D → List D → Store → (List D → Store → Prop) → Prop
  | [], acc, S, Q => Q acc S
  | d :: ds, acc, S, Q => ti1 (ρ.set v (some d)) S fun es S1 => lcR v1 tdYes te (ρ.set v (some d)) es acc S1 fun acc' S2 => lc2R v v1 ti1 te ρ ds acc' S2 Q
def tdLc2 (ti : TDI) (v v1 : Nat) (ti1 : TDI) (te : TD) : TD := fun ρ S Q => ti ρ S fun ds S1 => lc2R v v1 ti1 te (unsetD ρ [v, v1]) ds [] S1 fun ys S2 => Q (.lst ys) S2
theorem lc2_go {ti ti1 : TDI} {v v1 : Nat} {te : TD} {K : PySem.W.Frag} {σ : L2.St} {H : Hp} {Q : VK} (h : EL K F0 (tdLc2 ti v v1 ti1 te) σ H Q) :
    tLc2 (IL K F0 ti) (gName v) (TL K F0 tdYes) (IL K F0 ti1) (gName v1) (TL K F0 tdYes) (EL K F0 te) [v, v1] [v1] σ H Q := by
  obtain ⟨F, S, ρ, Q', a, h, p⟩ := h
  refine IL.go a h fun J H1 F1 S1 ds x1 a1 it q1 D hD => ?_
  refine ⟨fun i m H => m = ds.length - i ∧ i ≤ ds.length ∧ ∃ F S acc vs, Ext F1 S1 (upd H1 D (.lst vs)) F S H ∧ SR K F S H ∧ RelDs K F acc vs ∧ lc2R v v1 ti1 te (unsetD ρ [v, v1]) (ds.drop i) acc S fun ys S2 => Q' (.lst ys) S2,
    ⟨ds.length, by omega, Nat.zero_le _, F1, S1, [], [], Ext.refl _ _ _, a1.sr.laid hD, .nil, q1⟩, ?_⟩
  rintro i m H2 ⟨rfl, hi, F2, S2, acc, vs, x2, sr2, racc, q2⟩
  have sm : Same F1 H2 := x2.same.trans sr2.fro
  obtain ⟨nF, nS, hH⟩ := x2.laid_none a1.sr hD
  by_cases hlt : i < ds.length
  · refine .inr ⟨it.go i H2 sm hlt, fun H => ∃ F S acc vs, Ext F1 S1 (upd H1 D (.lst vs)) F S H ∧ SR K F S H ∧ RelDs K F acc vs ∧ lc2R v v1 ti1 te (unsetD ρ [v, v1]) (ds.drop (i + 1)) acc S fun ys S2 => Q' (.lst ys) S2, fun H' n => ⟨ds.length - (i + 1), by omega, rfl, hlt, n⟩, fun x H' y => ?_⟩
    obtain ⟨F3, d, x3, sr3, hd, rd⟩ := it.yld i x H2 H' F2 S2 x2.same sr2 y hlt
    have e : ds.drop i = d :: ds.drop (i + 1) := by
      rw [List.drop_eq_getElem_cons hlt]
      congr 1
      rw [List.getElem?_eq_getElem hlt] at hd
      exact Option.some.inj hd
    rw [e] at q2
    have x13 : Ext F1 S1 (upd H1 D (.lst vs)) F3 S2 H' := x2.trans x3
    have a3 : At K F0 F3 S2 H' ((unsetD ρ [v, v1]).set v (some d)) ((wipe σ [v, v1]).set v (some x)) :=
      ⟨a1.f0.trans ((Ext.laid hD).trans x13), sr3, ((a1.env.mono x13.same).wipe [v, v1]).set rd v⟩
    refine ⟨?_, ?_⟩
    · rw [wipe_set (by simp), wipe_wipe]
    · have q2' : ti1 ((unsetD ρ [v, v1]).set v (some d)) S2 fun es S1 => lcR v1 tdYes te ((unsetD ρ [v, v1]).set v (some d)) es acc S1 fun acc' S2 => lc2R v v1 ti1 te (unsetD ρ [v, v1]) (ds.drop (i + 1)) acc' S2 fun ys S2 => Q' (.lst ys) S2 := q2
      refine ⟨F3, S2, _, fun b S' => b = true ∧ S' = S2, a3, (⟨rfl, rfl⟩ : true = true ∧ S2 = S2), fun b H4 F4 S4 x4 sr4 ⟨e4, e5⟩ => ?_⟩
      subst e4 e5
      have a4 : At K F0 F4 S4 H4 ((unsetD ρ [v, v1]).set v (some d)) ((wipe σ [v, v1]).set v (some x)) := ⟨a3.f0.trans x4, sr4, a3.env.mono x4.same⟩
      have x14 := x13.trans x4
      have racc4 := RelDs.mono x4.same _ _ (RelDs.mono x3.same _ _ racc)
      refine iteT (IL.go a4 q2' fun J1 H5 F5 S5 es x5 a5 it1 q5 => ?_)
      have x15 := x14.trans x5
      have racc5 := RelDs.mono x5.same _ _ racc4
      refine ⟨fun j k H => k = es.length - j ∧ j ≤ es.length ∧ ∃ F S acc vs, Ext F1 S1 (upd H1 D (.lst vs)) F S H ∧ Same F5 F ∧ SR K F S H ∧ Ext F0.F F0.S F0.H F S H ∧ RelDs K F acc vs ∧ lcR v1 tdYes te ((unsetD ρ [v, v1]).set v (some d)) (es.drop j) acc S fun acc' S2 => lc2R v v1 ti1 te (unsetD ρ [v, v1]) (ds.drop (i + 1)) acc' S2 fun ys S2 => Q' (.lst ys) S2,
        ⟨es.length, by omega, Nat.zero_le _, F5, S5, acc, vs, x15, Same.refl _, a5.sr, a5.f0, racc5, q5⟩, ?_⟩
      rintro j k H6 ⟨rfl, hj, F6, S6, acc6, vs6, x6, s6, sr6, f6, racc6, q6⟩
      by_cases hlt2 : j < es.length
      · refine .inr ⟨it1.go j H6 (s6.trans sr6.fro) hlt2, fun H => ∃ F S acc vs, Ext F1 S1 (upd H1 D (.lst vs)) F S H ∧ Same F5 F ∧ SR K F S H ∧ Ext F0.F F0.S F0.H F S H ∧ RelDs K F acc vs ∧ lcR v1 tdYes te ((unsetD ρ [v, v1]).set v (some d)) (es.drop (j + 1)) acc S fun acc' S2 => lc2R v v1 ti1 te (unsetD ρ [v, v1]) (ds.drop (i + 1)) acc' S2 fun ys S2 => Q' (.lst ys) S2,
          fun H' n => ⟨es.length - (j + 1), by omega, rfl, hlt2, n⟩, fun z H7 y7 => ?_⟩
        obtain ⟨F7, d7, x7, sr7, hd7, rd7⟩ := it1.yld j z H6 H7 F6 S6 s6 sr6 y7 hlt2
        have e7 : es.drop j = d7 :: es.drop (j + 1) := by
          rw [List.drop_eq_getElem_cons hlt2]
          congr 1
          rw [List.getElem?_eq_getElem hlt2] at hd7
          exact Option.some.inj hd7
        rw [e7] at q6
        have x17 := x6.trans x7
        have a7 : At K F0 F7 S6 H7 (((unsetD ρ [v, v1]).set v (some d)).set v1 (some d7)) ((wipe ((wipe σ [v, v1]).set v (some x)) [v1]).set v1 (some z)) := by
          refine ⟨f6.trans x7, sr7, ?_⟩
          have h0 : (wipe ((wipe σ [v, v1]).set v (some x)) [v1]).set v1 (some z) = ((wipe σ [v, v1]).set v (some x)).set v1 (some z) := by
            show (((wipe σ [v, v1]).set v (some x)).set v1 none).set v1 (some z) = _
            rw [List.set_set]
          rw [h0]
          exact (a5.env.mono (s6.trans x7.same)).set rd7 v1
        refine ⟨?_, ?_⟩
        · rw [wipe_set (by simp), wipe_wipe]
        · refine ⟨F7, S6, _, fun b S' => b = true ∧ S' = S6, a7, (⟨rfl, rfl⟩ : true = true ∧ S6 = S6), fun b H8 F8 S8 x8 sr8 ⟨e8, e9⟩ => ?_⟩
          subst e8 e9
          have a8 : At K F0 F8 S8 H8 (((unsetD ρ [v, v1]).set v (some d)).set v1 (some d7)) ((wipe ((wipe σ [v, v1]).set v (some x)) [v1]).set v1 (some z)) := ⟨a7.f0.trans x8, sr8, a7.env.mono x8.same⟩
          have q6' : te (((unsetD ρ [v, v1]).set v (some d)).set v1 (some d7)) S8 fun y S2 => acc6.length < sizeLine ∧ lcR v1 tdYes te ((unsetD ρ [v, v1]).set v (some d)) (es.drop (j + 1)) (acc6 ++ [y]) S2 fun acc' S2 => lc2R v v1 ti1 te (unsetD ρ [v, v1]) (ds.drop (i + 1)) acc' S2 fun ys S2 => Q' (.lst ys) S2 := by
            have := q6
            dsimp only [lcR, tdYes] at this
            rw [if_pos rfl] at this
            exact this
          refine iteT (EL.go a8 q6' fun u H9 F9 S9 yd x9 a9 r9 ⟨hl, q9⟩ => ?_)
          have x19 := (x17.trans x8).trans x9
          obtain ⟨nF9, nS9, hH9⟩ := x19.laid_none a1.sr hD
          have racc9 := RelDs.mono x9.same _ _ (RelDs.mono x8.same _ _ (RelDs.mono x7.same _ _ racc6))
          refine ⟨vs6, hH9, by rw [racc9.length]; exact hl, ?_⟩
          have sr9 := a9.sr.re (o := .lst (vs6 ++ [u])) nF9 nS9
          have x19' := Ext.reset (K := K) (o2 := .lst (vs6 ++ [u])) x19
          exact ⟨F9, S9, acc6 ++ [yd], vs6 ++ [u], x19', ((s6.trans x7.same).trans x8.same).trans x9.same, sr9, (a1.f0.trans (Ext.laid hD)).trans x19', racc9.append (.cons r9 .nil), q9⟩
      · refine .inl ⟨it1.stop j H6 (s6.trans sr6.fro) (by omega), ?_⟩
        rw [List.drop_eq_nil_of_le (by omega)] at q6
        exact ⟨F6, S6, acc6, vs6, x6, sr6, racc6, q6⟩
  · refine .inl ⟨it.stop i H2 sm (by omega), ?_⟩
    rw [List.drop_eq_nil_of_le (by omega)] at q2
    obtain ⟨k1, k2⟩ := sr2.adoptF (ho := .lst vs) nF nS
    have k3 := x2.adoptF (ho := .lst vs) hD nF
    rw [upd_id hH] at k1 k3
    exact p.of (x1.trans k3) k1 (RelD.lst_i upd_same (RelDs.mono k2 _ _ racc)) q2
theorem de_lc2 {elt iter iter1 : Expr} {scope : Scope} {x y : Str} {xp yp : Pos} {v v1 : Nat} {ti ti1 : TDI} {te : TD} (hc : X.calm = true) (hN : X.N.Nodup) (hi : DI X F0 (.Name x xp) iter ti) (ok : BlkOk X.N X.env.scope scope [(x, v), (y, v1)])
    (hg : ∀ (s : Shared) (H : Hp) (C : Addr) (cl : List (Str × Addr)) (fp : List Addr), PG (X.blk s H scope (compEnvC scope cl C X.env) fp) (.Name x xp) (gName v))
    (hi1 : ∀ (s : Shared) (H : Hp) (C : Addr) (cl : List (Str × Addr)) (fp : List Addr), DI (X.blk s H scope (compEnvC scope cl C X.env) fp) F0 (.Name y yp) iter1 ti1)
    (hg1 : ∀ (s : Shared) (H : Hp) (C : Addr) (cl : List (Str × Addr)) (fp : List Addr), PG (X.blk s H scope (compEnvC scope cl C X.env) fp) (.Name y yp) (gName v1))
    (he : ∀ (s : Shared) (H : Hp) (C : Addr) (cl : List (Str × Addr)) (fp : List Addr), DE (X.blk s H scope (compEnvC scope cl C X.env) fp) F0 elt te) (hs : ∀ x, foldedSetIterable iter X.env x = pure x := by intro _; rfl) (hs1 : ∀ env x, foldedSetIterable iter1 env x = pure x := by intro _ _; rfl) :
    DE X F0 (.ListComp elt [⟨.Name x xp, iter, [], 0⟩, ⟨.Name y yp, iter1, [], 0⟩] scope pos) (tdLc2 ti v v1 ti1 te) :=
  PE.weak (pe_lc2 (own := [(x, v), (y, v1)]) (vs1 := [v1]) (wi := IL X.K F0 ti) (wi1 := IL X.K F0 ti1) (tt := TL X.K F0 tdYes) (tt1 := TL X.K F0 tdYes) (te := EL X.K F0 te) hc hN hi ok (by simp) hg (fun _ _ _ _ _ => dts_nil) hi1 hg1 (fun _ _ _ _ _ => dts_nil) he hs hs1) fun σ H Q h => lc2_go h
theorem ds_setLc2 (i : Nat) {z : Str} {zp : Pos} {elt iter iter1 : Expr} {scope : Scope} {x y : Str} {xp yp spos : Pos} {v v1 : Nat} {ti ti1 : TDI} {te : TD} (hc : X.calm = true) (hN : X.N.Nodup) (hy : X.N[i]? = some z) (hyl : X.env.scope.names.lookup z = some .local)
    (hsw : swapsWith (.ListComp elt [⟨.Name x xp, iter, [], 0⟩, ⟨.Name y yp, iter1, [], 0⟩] scope pos) (some (.Name z zp)) spos.line X.env = pure true) (hi : DI X F0 (.Name x xp) iter ti) (ok : BlkOk X.N X.env.scope scope [(x, v), (y, v1)])
    (hg : ∀ (s : Shared) (H : Hp) (C : Addr) (cl : List (Str × Addr)) (fp : List Addr), PG (X.blk s H scope (compEnvC scope cl C X.env) fp) (.Name x xp) (gName v))
    (hi1 : ∀ (s : Shared) (H : Hp) (C : Addr) (cl : List (Str × Addr)) (fp : List Addr), DI (X.blk s H scope (compEnvC scope cl C X.env) fp) F0 (.Name y yp) iter1 ti1)
    (hg1 : ∀ (s : Shared) (H : Hp) (C : Addr) (cl : List (Str × Addr)) (fp : List Addr), PG (X.blk s H scope (compEnvC scope cl C X.env) fp) (.Name y yp) (gName v1))
    (he : ∀ (s : Shared) (H : Hp) (C : Addr) (cl : List (Str × Addr)) (fp : List Addr), DE (X.blk s H scope (compEnvC scope cl C X.env) fp) F0 elt te) (hs : ∀ x, foldedSetIterable iter X.env x = pure x := by intro _; rfl) (hs1 : ∀ env x, foldedSetIterable iter1 env x = pure x := by intro _ _; rfl) :
    DS X F0 (.Assign [.Name z zp] (.ListComp elt [⟨.Name x xp, iter, [], 0⟩, ⟨.Name y yp, iter1, [], 0⟩] scope pos) spos) (tdAsg (tdLc2 ti v v1 ti1 te) (gdName i)) :=
  PS.weak (ps_setLc2 (own := [(x, v), (y, v1)]) (vs1 := [v1]) (wi := IL X.K F0 ti) (wi1 := IL X.K F0 ti1) (tt := TL X.K F0 tdYes) (tt1 := TL X.K F0 tdYes) (te := EL X.K F0 te) hc hN hy hyl hsw hi ok (by simp) hg (fun _ _ _ _ _ => dts_nil) hi1 hg1 (fun _ _ _ _ _ => dts_nil) he hs hs1) fun D σ H ⟨F, S, ρ, D', a, h, p⟩ => by
    show tLc2 _ _ _ _ _ _ _ _ _ σ H _
    exact lc2_go (EL.go a h fun w H1 F1 S1 d x1 a1 r1 q1 => p.1 _ _ _ _ _ x1 a1.sr (a1.env.set r1 i) q1)
end
end DL
namespace DL
open PySem PySem.Spec PyProof.Rows L2
/-- a tuple of bools -/
abbrev bt (r : List Bool) : DL.D := .tup (r.map DL.D.bl)
abbrev bp (r : List Bool) : PyData := .tuple (r.map PyData.bool)
theorem reads_bools {K : PySem.W.Frag} {F : Hp} {h : Heap} : ∀ {r : List Bool} {vs : List V} {us : List Value}, RelDs K F (r.map DL.D.bl) vs → Vals vs us → ReadsAll h us (r.map PyData.bool) []
  | [], vs, us, r, v => by
    obtain rfl := r.nil_inv
    cases v
    exact .nil
  | b :: r, vs, us, h, v => by
    obtain ⟨x, q, rfl, h1, h2⟩ := h.cons_inv
    obtain rfl := h1.bl_e
    cases v with
    | cons v1 v2 =>
      cases v1
      exact .cons (.bool b) (reads_bools h2 v2)
theorem alike_bools : ∀ r q : List Bool, PySem.W.alikeAll (r.map PyData.bool) (q.map PyData.bool) = true
  | [], _ => by simp [PySem.W.alikeAll]
  | _ :: _, [] => by simp [PySem.W.alikeAll]
  | b :: r, c :: q => by
    show PySem.W.alikeAll (.bool b :: r.map .bool) (.bool c :: q.map .bool) = true
    rw [PySem.W.alikeAll, alike_bools r q]
    simp [PySem.W.alike]
theorem depth_bools : ∀ r : List Bool, PyData.depthAll (r.map PyData.bool) = 0
  | [] => by simp [PyData.depthAll]
  | b :: r => by
    show PyData.depthAll (.bool b :: r.map .bool) = 0
    rw [PyData.depthAll, depth_bools r]
    simp [PyData.depth]
theorem keys_split {K : PySem.W.Frag} {F : Hp} : ∀ {kvs : List (NestedKey × DL.D × DL.D)} {zs : XN} {rs : List (List Bool)}, RelN K F kvs zs → kvs.map (·.2.1) = rs.map bt →
    ∃ bs : List (List Bool × Addr), bs.map (·.1) = rs ∧ bs.map (·.2) = zs.map (·.2.1) ∧ ∀ p ∈ bs, RelD K F (bt p.1) (.ref p.2)
  | _, _, [], .nil, _ => ⟨[], rfl, rfl, fun p hp => nomatch hp⟩
  | _, _, _ :: _, .nil, e => by simp at e
  | _ :: _, _ :: _, [], .cons h t, e => by simp at e
  | p :: _, z :: _, r :: rs, .cons h t, e => by
    rw [List.map_cons, List.map_cons] at e
    injection e with e1 e2
    obtain ⟨bs, h1, h2, h3⟩ := keys_split t e2
    refine ⟨(r, z.2.1) :: bs, by rw [List.map_cons, h1], by rw [List.map_cons, h2]; rfl, fun q hq => ?_⟩
    rcases List.mem_cons.mp hq with e | hq
    · subst e
      rw [← e1]
      exact h.2.2.1
    · exact h3 q hq
theorem kn_addr : ∀ {xs : XN} {ys : YN}, KN xs ys → xs.map (·.2.1) = ys.map (·.2.1)
  | _, _, .nil => rfl
  | _ :: _, _ :: _, .cons h t => by rw [List.map_cons, List.map_cons, h.2.1, kn_addr t]
theorem rel_bts {K : PySem.W.Frag} {F : Hp} : ∀ {bs : List (List Bool × Addr)}, (∀ p ∈ bs, RelD K F (bt p.1) (.ref p.2)) → RelDs K F (bs.map fun p => bt p.1) (bs.map fun p => V.ref p.2)
  | [], _ => .nil
  | p :: bs, h => .cons (h p List.mem_cons_self) (rel_bts fun q hq => h q (List.mem_cons_of_mem _ hq))
theorem vals_rf : ∀ bs : List (List Bool × Addr), Vals (bs.map fun p => V.ref p.2) (bs.map fun p => Value.ref p.2)
  | [] => .nil
  | _ :: r => .cons rfl (vals_rf r)
theorem each_rf : ∀ bs : List (List Bool × Addr), PySem.W.EachIs (fun (v : Value) (p : List Bool × Addr) => v = .ref p.2) (bs.map fun p => Value.ref p.2) bs
  | [] => .nil
  | _ :: r => .cons rfl (each_rf r)
theorem each_out : ∀ {out : List Value} {bs : List (List Bool × Addr)}, PySem.W.EachIs (fun (v : Value) (p : List Bool × Addr) => v = .ref p.2) out bs → out = bs.map fun p => Value.ref p.2
  | _, _, .nil => rfl
  | _, _, .cons h t => by rw [List.map_cons, h, ← each_out t]
section
variable {X : Cx} {w : World}
def gSortN (w : World) : DCall := fun S ds Q => ∃ a kvs rs, ds = [.ref a] ∧ S a = some (.dn w a kvs) ∧ kvs.map (·.2.1) = rs.map bt ∧ (∀ r ∈ rs, r ≠ []) ∧ rs.length ≤ 100000 ∧ ∀ out : List (List Bool), out.Perm rs → Q (.lst (out.map bt)) S
theorem oc_sortN (hw : X.w = w) (hu : X.A.units + 65 < cLine) (hcalm : X.calm = true) : CallR X (.builtin "sorted") (CL X.K (gSortN w)) := by
  subst hw
  intro pins s σ H xs us Q I r ⟨F, S, ds, Q', sr, rd, ⟨a, kvs, rs, e1, e2, e3, e4, e5, q⟩, p⟩
  subst e1
  obtain ⟨v, rfl, rv⟩ := rds1 rd
  obtain rfl := rv.ref_e
  obtain ⟨u, eu, rx⟩ := vals1 r
  subst eu
  cases rx
  obtain ⟨zs, h1, h2⟩ := sr.nat e2
  obtain ⟨z, hd, ys, rel, dd⟩ := nat_of I h1
  obtain ⟨bs, b1, b2, b3⟩ := keys_split h2 e3
  have hbl : bs.length = rs.length := by rw [← b1, List.length_map]
  obtain ⟨o, es, ep, ho, hc, hdat, he, his, hn⟩ := dd
  have hes : es.size = ys.length := size_of_entries he
  have hzy := kn_addr rel
  have hyb : ys.length = bs.length := by
    have := congrArg List.length (b2.trans hzy)
    simpa using this.symm
  have hline : (100000 : Nat) ≤ sizeLine := sz5 (by decide)
  refine Calls.call_function_entry kind_sorted plain_sorted entry_sorted (args_sorted1 _) ?_
  unfold Builtin.«sorted»
  refine wpAny_bind (m := checkCount "sorted" 1 1 _) (wpAny_pure ?_)
  refine wpAny_bind (PySem.W.kdu_collect (A := X.A.in1) (kdl_raw (prog := X.prog) (w := X.w) hd hc hdat) (I.ok.hd hcalm) ho (by omega) fun h' tk acc hk hacc => ?_)
  have hac : acc.toList = bs.map fun p => Value.ref p.2 := by
    refine List.ext_getElem? fun j => ?_
    have h0 : (bs.map fun p => Value.ref p.2) = ys.map fun y => Value.ref y.2.1 := by
      have e9 := congrArg (List.map Value.ref) (b2.trans hzy)
      rw [List.map_map, List.map_map] at e9
      exact e9
    rw [h0]
    cases q1 : acc.toList[j]? with
    | none =>
      have g1 := List.getElem?_eq_none_iff.mp q1
      refine (List.getElem?_eq_none_iff.mpr ?_).symm
      rw [List.length_map, ← hes, ← hacc.1]
      simpa using g1
    | some v =>
      obtain ⟨en, g1, g2⟩ := hacc.2 j v (by rw [← Array.getElem?_toList]; exact q1)
      rw [entry_at he j] at g1
      obtain ⟨y, g3, g4⟩ := Option.map_eq_some_iff.mp g1
      rw [List.getElem?_map, g3, g2, ← g4]
      rfl
  have I1 : Inv X pins σ H { s with heap := h', toks := tk } := I.kept hk
  have hal : acc.toList.length = bs.length := by rw [hac, List.length_map]
  refine wpAny_bind (wpAny_newList ?_ (by rw [hal]; omega))
  have hoL : (h'.push (seqObj "list" acc.toList.toArray 0)).get? h'.objs.size = some (seqObj "list" acc.toList.toArray 0) := Heap.get?_push_size _ rfl
  have I2 : Inv X pins σ H { s with heap := h'.push (seqObj "list" acc.toList.toArray 0), toks := tk } := I1.kept (t' := tk) fun b o e => Heap.get?_push_of_some _ e
  have e6 : PySem.W.EachIs (fun (v : Value) (p : List Bool × Addr) => v = .ref p.2) acc.toList bs := by rw [hac]; exact each_rf bs
  have er : PySem.W.EachIs (fun v b => ∃ as, Reads (h'.push (seqObj "list" acc.toList.toArray 0)) v (bp b.1) as ∧ h'.objs.size ∉ as) acc.toList bs := by
    refine PySem.W.EachIs.of_zip hal fun pr hpr => ?_
    have g1 := e6.zip pr hpr
    have g2 := b3 pr.2 (List.of_mem_zip hpr).2
    obtain ⟨c, vs, g3, g4, g5⟩ := g2.tup_e
    cases g3
    obtain ⟨its, rv, ⟨o2, k1, k2, n2, k3⟩, _⟩ := I2.tuple (seqT sr.fro g4)
    rw [g1]
    exact ⟨[], .tuple k1 k2 k3 (by simpa using reads_bools g5 rv), fun hm => nomatch hm⟩
  have hmono := PySem.W.list_sort_data (prog := X.prog) (w := X.w) (A := X.A.in1) (E := X.xe) (s := { s with heap := h'.push (seqObj "list" acc.toList.toArray 0), toks := tk }) (enc := fun b => bp b.1)
    (Q := fun _ s' => EP X pins σ Q (.ref h'.objs.size) s') hoL e6 er (PySem.W.AllAlike.of (enc := fun b : List Bool × Addr => bp b.1) fun b b' => show PySem.W.alike (bp b.1) (bp b'.1) = true from by unfold bp; rw [PySem.W.alike]; exact alike_bools b.1 b'.1) (.inl fun d hd => ?_) (by omega) (fun b hb => ?_) fun out ho2 eo => ?_
  · refine wpAny_bind (wpAny_holding (wpAny_mono hmono (fun _ s' x => ?_) fun _ _ e => e))
    exact wpAny_pure ⟨_, rfl, x⟩
  · obtain ⟨b, hb, rfl⟩ := List.mem_map.mp hd
    have hne : b.1 ≠ [] := e4 b.1 (by rw [← b1]; exact List.mem_map_of_mem hb)
    cases q1 : b.1 with
    | nil => exact absurd q1 hne
    | cons x t => exact ⟨.bool x, t.map PyData.bool, rfl⟩
  · have hdp : (bp b.1).depth = 1 := by
      unfold bp
      rw [PyData.depth, depth_bools]
    have h1' : X.A.in1.units = X.A.units + 1 := Around.in1_units _
    rw [hdp, h1']
    omega
  · have eout := each_out eo
    have hperm := List.mergeSort_perm bs (PySem.W.dataLe false fun b : List Bool × Addr => bp b.1)
    generalize bs.mergeSort (PySem.W.dataLe false fun b : List Bool × Addr => bp b.1) = obs at eout hperm
    subst eout
    obtain ⟨e', he'⟩ := sortedHeap_at (vs := acc.toList) (out := (obs.map fun p => Value.ref p.2).toArray) hoL
    have hob : obs.length = bs.length := hperm.length_eq
    have nH : H h'.objs.size = none := I1.hok.fresh (Nat.le_refl _)
    refine ⟨.ref h'.objs.size, upd H h'.objs.size (.lst (obs.map fun p => V.ref p.2)), I1.laid (t' := tk) (fun b u e => ?_) (Nat.le_refl _)
      (show ObjOk X.prog X.w _ _ _ (.lst (obs.map fun p => V.ref p.2)) from ⟨by rw [List.length_map]; omega, obs.map fun p => Value.ref p.2, e', vals_rf obs, he'⟩), rfl, ?_⟩
    · have hb : b < h'.objs.size := Heap.lt_size e
      rw [sortedHeap_old (Nat.ne_of_lt hb) (by rw [size_push']; exact Nat.lt_succ_of_lt hb)]
      exact Heap.get?_push_of_some _ e
    · have hrel := rel_bts (K := X.K) (F := F) (bs := obs) fun p hp => b3 p (hperm.mem_iff.mp hp)
      have hq := q (obs.map (·.1)) (by rw [← b1]; exact hperm.map _)
      rw [List.map_map] at hq
      exact p.of (sr.ext_frz nH) (sr.frz nH) (.lst_i upd_same (RelDs.mono (sr.same_frz nH) _ _ hrel)) hq
end
end DL
namespace DLZ
open PySem
open PySem.Sem (wp)
open PySem.W (kdx_alive)
/-- an iterator over a list or a tuple, as far as zip asks -/
structure Nx (prog : Program) (w : World) (it l : Addr) (xs : Array Value) (St : Heap → Nat → Prop) : Prop where
  item : ∀ (A : Around) (E : Value → Shared → Prop) (s : Shared) (k : Nat) (x : Value) (Q : Value → Shared → Prop), St s.heap k → xs[k]? = some x → (∀ h', St h' (k + 1) → Heap.SameBut it s.heap h' → Q x { s with heap := h' }) →
    wpAny (model prog w) A (Builtin.SmallTypes.nextOf (.ref it)) Q E s
  fin : ∀ (A : Around) (E : Value → Shared → Prop) (s : Shared) (k : Nat) (Q : Value → Shared → Prop), A.handled = none → St s.heap k → xs[k]? = none →
    (∀ h' e, Heap.ExtBut it s.heap h' → (∃ o, h'.get? e = some o ∧ o.cls = .type "StopIteration") → E (.ref e) { s with heap := h' }) → wpAny (model prog w) A (Builtin.SmallTypes.nextOf (.ref it)) Q E s
  keep : ∀ h h' k, St h k → (∀ o, h.get? it = some o → h'.get? it = some o) → (∀ o, h.get? l = some o → h'.get? l = some o) → St h' k
  there : ∀ h k, St h k → (∃ o, h.get? it = some o) ∧ ∃ o, h.get? l = some o
section
variable {prog : Program} {w : World}
theorem nx_list (it l : Addr) (hne : l ≠ it) (xs : Array Value) : Nx prog w it l xs (fun h k => h.IsListIter it l k ∧ h.IsList l xs) where
  item := fun A E s k x Q st hx hQ => wpAny_nextOf_list_item st.1 st.2 hx fun h' h1 hs => hQ h' ⟨h1, st.2.extBut hs.extBut hne⟩ hs
  fin := fun A E s k Q hh st hx hE => wpAny_nextOf_list_end hh st.1 st.2 hx hE
  keep := fun h h' k st h1 h2 => ⟨st.1.at h1, st.2.at h2⟩
  there := fun h k st => by
    obtain ⟨⟨o1, h1, _⟩, ⟨o2, h2, _⟩⟩ := st
    exact ⟨⟨_, h1⟩, ⟨_, h2⟩⟩
theorem nx_tuple (it l : Addr) (hne : l ≠ it) (xs : Array Value) : Nx prog w it l xs (fun h k => h.IsTupleIter it l k ∧ h.IsTuple l xs) where
  item := fun A E s k x Q st hx hQ => RZ.nextOf_tuple_item st.1 st.2 hx fun h' h1 hs => hQ h' ⟨h1, st.2.extBut hs.extBut hne⟩ hs
  fin := fun A E s k Q hh st hx hE => RZ.nextOf_tuple_end hh st.1 st.2 hx hE
  keep := fun h h' k st h1 h2 => ⟨st.1.at h1, st.2.at h2⟩
  there := fun h k st => by
    obtain ⟨⟨o1, h1, _⟩, ⟨o2, h2, _⟩⟩ := st
    exact ⟨⟨_, h1⟩, ⟨_, h2⟩⟩
theorem Nx.ext {it l : Addr} {xs : Array Value} {St : Heap → Nat → Prop} (N : Nx prog w it l xs St) {h h' : Heap} {k : Nat} {b : Addr} (st : St h k) (e : Heap.ExtBut b h h') (h1 : it ≠ b) (h2 : l ≠ b) : St h' k :=
  N.keep _ _ _ st (fun o q => e _ _ h1 q) fun o q => e _ _ h2 q
end
section
variable {prog : Program} {w : World} {A : Around} {E : Value → Shared → Prop} {s : Shared} {z TI TO T i1 i2 l1 l2 : Addr} {k : Nat} {xs ys : Array Value} {x y a b : Value} {St1 St2 : Heap → Nat → Prop} {f : Bool} {oT : Obj}
theorem next_item {Q : Value → Shared → Prop} (N1 : Nx prog w i1 l1 xs St1) (N2 : Nx prog w i2 l2 ys St2) (D : ZipApart z TI TO i1 i2 l1 l2)
    (hz : IsZip s.heap z TI TO .none) (hTI : IsPair s.heap TI (.ref i1) (.ref i2)) (hTO : IsPair s.heap TO a b) (h1 : St1 s.heap k) (h2 : St2 s.heap k) (hx : xs[k]? = some x) (hy : ys[k]? = some y)
    (hQ : ∀ h', IsZip h' z TI TO (rawInt s.heap.objs.size) → IsPair h' TO x y → St1 h' (k + 1) → St2 h' (k + 1) → IsPair h' s.heap.objs.size x y → h'.objs.size = s.heap.objs.size + 1 →
      (∀ c o, c ≠ z → c ≠ TO → c ≠ i1 → c ≠ i2 → s.heap.get? c = some o → h'.get? c = some o) → Q (.ref s.heap.objs.size) { s with heap := h' }) :
    wpAny (model prog w) A (Builtin.«zip.__next__» ⟨[.ref z], []⟩) (fun fin s' => ∃ v, fin = .done (.ret v) ∧ Q v s') E s := by
  show wpAny _ _ (field (.ref z) 2 >>= _) _ _ _
  refine wpAny_bind (wpAny_field hz rfl (x := .bool false) rfl ?_)
  show wpAny _ _ (field (.ref z) 3 >>= _) _ _ _
  refine wpAny_bind (wpAny_field hz rfl (x := .ref TI) rfl ?_)
  refine wpAny_bind (wpAny_seqItems hTI rfl ?_)
  show wpAny _ _ (Builtin.SmallTypes.ownedTupleIsFree (.ref z) >>= _) _ _ _
  refine wpAny_bind ?_
  unfold Builtin.SmallTypes.ownedTupleIsFree
  refine wpAny_bind (wpAny_field hz rfl (x := .none) rfl (wpAny_pure ?_))
  simp only [if_true]
  refine wpAny_bind (wpAny_rule ?_)
  refine wpAny_bind (wpAny_field hz rfl (x := .ref TO) rfl ?_)
  refine wpAny_bind (wpAny_setField_rec hz (by simp) fun g1 hz1 s1 => ?_)
  replace hz1 : IsZip g1 z TI TO .ellipsis := hz1
  refine wpAny_bind ?_
  simp only [List.zipIdx_cons, List.zipIdx_nil, List.forIn_cons, List.forIn_nil]
  refine wpAny_bind (wpAny_bind (wpAny_onRaise ?_))
  show wpAny _ _ (Builtin.SmallTypes.nextOf (.ref i1) >>= _) _ _ _
  refine wpAny_bind (N1.item _ _ { s with heap := g1 } k x _ (N1.ext h1 s1.extBut D.i1z D.l1z) hx fun g2 n1 s2 => wpAny_pure ?_)
  have hTO2 : IsPair g2 TO a b := s2.extBut _ _ D.TOi1 (s1.extBut _ _ D.TOz hTO)
  refine wpAny_bind (wpAny_seqItems hTO2 rfl ?_)
  refine wpAny_bind (wpAny_updateSeq_pair hTO2 fun g3 hTO3 s3 => ?_)
  replace hTO3 : IsPair g3 TO x b := hTO3
  refine wpAny_bind (wpAny_letGo (wpAny_pure ?_))
  refine wpAny_bind (wpAny_bind (wpAny_onRaise ?_))
  show wpAny _ _ (Builtin.SmallTypes.nextOf (.ref i2) >>= _) _ _ _
  refine wpAny_bind (N2.item _ _ { s with heap := g3 } k y _ (N2.ext (N2.ext (N2.ext h2 s1.extBut D.i2z D.l2z) s2.extBut D.i12.symm D.l2i1) s3.extBut D.TOi2.symm D.l2TO) hy fun g4 n2 s4 => wpAny_pure ?_)
  have hTO4 : IsPair g4 TO x b := s4.extBut _ _ D.TOi2 hTO3
  refine wpAny_bind (wpAny_seqItems hTO4 rfl ?_)
  refine wpAny_bind (wpAny_updateSeq_pair hTO4 fun g5 hTO5 s5 => ?_)
  replace hTO5 : IsPair g5 TO x y := hTO5
  refine wpAny_bind (wpAny_letGo (wpAny_pure (wpAny_pure ?_)))
  refine wpAny_bind (wpAny_seqItems hTO5 rfl ?_)
  refine wpAny_bind (wpAny_newTuple ?_)
  have hsz : g5.objs.size = s.heap.objs.size := by rw [s5.1, s4.1, s3.1, s2.1, s1.1]
  have hz5 : IsZip g5 z TI TO .ellipsis := s5.extBut _ _ D.TOz.symm (s4.extBut _ _ D.i2z.symm (s3.extBut _ _ D.TOz.symm (s2.extBut _ _ D.i1z.symm hz1)))
  have k5 : ∀ c o, c ≠ z → c ≠ TO → c ≠ i1 → c ≠ i2 → s.heap.get? c = some o → g5.get? c = some o := fun c o c1 c2 c3 c4 e =>
    s5.extBut _ _ c2 (s4.extBut _ _ c4 (s3.extBut _ _ c2 (s2.extBut _ _ c3 (s1.extBut _ _ c1 e))))
  have m1 : St1 g5 (k + 1) := N1.ext (N1.ext (N1.ext n1 s3.extBut D.TOi1.symm D.l1TO) s4.extBut D.i12 D.l1i2) s5.extBut D.TOi1.symm D.l1TO
  have m2 : St2 g5 (k + 1) := N2.ext n2 s5.extBut D.TOi2.symm D.l2TO
  have hzlt : z < g5.objs.size := Heap.lt_size hz5
  show wpAny _ _ (Builtin.SmallTypes.ownedTupleHandOut (.ref z) (.ref g5.objs.size) >>= _) _ _ _
  refine wpAny_bind ?_
  unfold Builtin.SmallTypes.ownedTupleHandOut
  have hz6 : IsZip (g5.push { cls := .type "tuple", data := .seq #[x, y] }) z TI TO .ellipsis := Heap.get?_push_of_some _ hz5
  refine wpAny_bind (wpAny_setField_rec hz6 (by simp) fun g7 hz7 s7 => ?_)
  replace hz7 : IsZip g7 z TI TO (rawInt g5.objs.size) := hz7
  refine wpAny_setField_rec hz7 (by simp) fun g8 hz8 s8 => ?_
  replace hz8 : IsZip g8 z TI TO (rawInt g5.objs.size) := hz8
  have up : ∀ c o, c ≠ z → g5.get? c = some o → g8.get? c = some o := fun c o c1 e => s8.extBut _ _ c1 (s7.extBut _ _ c1 (Heap.get?_push_of_some _ e))
  have hT8 : IsPair g8 g5.objs.size x y := s8.extBut _ _ (Nat.ne_of_gt hzlt) (s7.extBut _ _ (Nat.ne_of_gt hzlt) (Heap.get?_push_size _ rfl))
  have z8 : g8.objs.size = g5.objs.size + 1 := by rw [s8.1, s7.1, Heap.size_push]
  rw [hsz] at hz8 hT8 z8
  refine wpAny_pure ⟨_, rfl, ?_⟩
  show Q (.ref g5.objs.size) _
  rw [hsz]
  exact hQ g8 hz8 (up _ _ D.TOz hTO5) (N1.keep _ _ _ m1 (fun o e => up _ o D.i1z e) fun o e => up _ o D.l1z e) (N2.keep _ _ _ m2 (fun o e => up _ o D.i2z e) fun o e => up _ o D.l2z e) hT8 z8 fun c o c1 c2 c3 c4 e => up c o c1 (k5 c o c1 c2 c3 c4 e)
theorem next_end {Q : Fin → Shared → Prop} (hh : A.handled = none) (N1 : Nx prog w i1 l1 xs St1) (N2 : Nx prog w i2 l2 ys St2) (D : ZipApart z TI TO i1 i2 l1 l2)
    (hz : IsZip s.heap z TI TO .none) (hTI : IsPair s.heap TI (.ref i1) (.ref i2)) (hTO : IsPair s.heap TO a b) (h1 : St1 s.heap k) (h2 : St2 s.heap k) (hend : xs[k]? = none ∨ ys[k]? = none)
    (hE : ∀ h' e, (∀ c o, c ≠ z → c ≠ TO → c ≠ i1 → c ≠ i2 → s.heap.get? c = some o → h'.get? c = some o) → (∃ o, h'.get? e = some o ∧ o.cls = .type "StopIteration") → E (.ref e) { s with heap := h' }) :
    wpAny (model prog w) A (Builtin.«zip.__next__» ⟨[.ref z], []⟩) Q E s := by
  show wpAny _ _ (field (.ref z) 2 >>= _) _ _ _
  refine wpAny_bind (wpAny_field hz rfl (x := .bool false) rfl ?_)
  show wpAny _ _ (field (.ref z) 3 >>= _) _ _ _
  refine wpAny_bind (wpAny_field hz rfl (x := .ref TI) rfl ?_)
  refine wpAny_bind (wpAny_seqItems hTI rfl ?_)
  show wpAny _ _ (Builtin.SmallTypes.ownedTupleIsFree (.ref z) >>= _) _ _ _
  refine wpAny_bind ?_
  unfold Builtin.SmallTypes.ownedTupleIsFree
  refine wpAny_bind (wpAny_field hz rfl (x := .none) rfl (wpAny_pure ?_))
  simp only [if_true]
  refine wpAny_bind (wpAny_rule ?_)
  refine wpAny_bind (wpAny_field hz rfl (x := .ref TO) rfl ?_)
  refine wpAny_bind (wpAny_setField_rec hz (by simp) fun g1 hz1 s1 => ?_)
  replace hz1 : IsZip g1 z TI TO .ellipsis := hz1
  refine wpAny_bind ?_
  simp only [List.zipIdx_cons, List.zipIdx_nil, List.forIn_cons, List.forIn_nil]
  refine wpAny_bind (wpAny_bind (wpAny_onRaise ?_))
  show wpAny _ _ (Builtin.SmallTypes.nextOf (.ref i1) >>= _) _ _ _
  cases hx : xs[k]? with
  | none =>
    refine wpAny_bind (N1.fin _ _ { s with heap := g1 } k _ hh (N1.ext h1 s1.extBut D.i1z D.l1z) hx fun g2 e s2 he => ?_)
    obtain ⟨oe, hoe, hce⟩ := he
    have hz2 : IsZip g2 z TI TO .ellipsis := s2 _ _ D.i1z.symm hz1
    have hez : e ≠ z := fun q => by subst q; rw [hz2] at hoe; cases hoe; simp at hce
    refine wpAny_setField_rec hz2 (by simp) fun g3 _ s3 => hE g3 e (fun c o c1 _ c3 _ q => s3.extBut _ _ c1 (s2 _ _ c3 (s1.extBut _ _ c1 q))) ⟨oe, s3.extBut _ _ hez hoe, hce⟩
  | some x =>
    have hy : ys[k]? = none := by rcases hend with h | h; rw [hx] at h; cases h; exact h
    refine wpAny_bind (N1.item _ _ { s with heap := g1 } k x _ (N1.ext h1 s1.extBut D.i1z D.l1z) hx fun g2 n1 s2 => wpAny_pure ?_)
    have hTO2 : IsPair g2 TO a b := s2.extBut _ _ D.TOi1 (s1.extBut _ _ D.TOz hTO)
    refine wpAny_bind (wpAny_seqItems hTO2 rfl ?_)
    refine wpAny_bind (wpAny_updateSeq_pair hTO2 fun g3 hTO3 s3 => ?_)
    refine wpAny_bind (wpAny_letGo (wpAny_pure ?_))
    refine wpAny_bind (wpAny_bind (wpAny_onRaise ?_))
    show wpAny _ _ (Builtin.SmallTypes.nextOf (.ref i2) >>= _) _ _ _
    refine wpAny_bind (N2.fin _ _ { s with heap := g3 } k _ hh (N2.ext (N2.ext (N2.ext h2 s1.extBut D.i2z D.l2z) s2.extBut D.i12.symm D.l2i1) s3.extBut D.TOi2.symm D.l2TO) hy fun g4 e s4 he => ?_)
    obtain ⟨oe, hoe, hce⟩ := he
    have hz4 : IsZip g4 z TI TO .ellipsis := s4 _ _ D.i2z.symm (s3.extBut _ _ D.TOz.symm (s2.extBut _ _ D.i1z.symm hz1))
    have hez : e ≠ z := fun q => by subst q; rw [hz4] at hoe; cases hoe; simp at hce
    refine wpAny_setField_rec hz4 (by simp) fun g5 _ s5 => hE g5 e (fun c o c1 c2 c3 c4 q => s5.extBut _ _ c1 (s4 _ _ c4 (s3.extBut _ _ c2 (s2.extBut _ _ c3 (s1.extBut _ _ c1 q))))) ⟨oe, s5.extBut _ _ hez hoe, hce⟩
theorem next_item_held {Q : Value → Shared → Prop} (N1 : Nx prog w i1 l1 xs St1) (N2 : Nx prog w i2 l2 ys St2) (D : ZipApart z TI TO i1 i2 l1 l2)
    (hz : IsZipHeld s.heap z TI TO T f) (hT : s.heap.get? T = some oT) (hTI : IsPair s.heap TI (.ref i1) (.ref i2)) (h1 : St1 s.heap k) (h2 : St2 s.heap k) (hx : xs[k]? = some x) (hy : ys[k]? = some y)
    (hQ : ∀ h', IsZipHeld h' z TI TO T true → St1 h' (k + 1) → St2 h' (k + 1) → IsPair h' s.heap.objs.size x y → h'.objs.size = s.heap.objs.size + 1 →
      (∀ c o, c ≠ z → c ≠ i1 → c ≠ i2 → s.heap.get? c = some o → h'.get? c = some o) → Q (.ref s.heap.objs.size) { s with heap := h' }) :
    wpAny (model prog w) A (Builtin.«zip.__next__» ⟨[.ref z], []⟩) (fun fin s' => ∃ v, fin = .done (.ret v) ∧ Q v s') E s := by
  show wpAny _ _ (field (.ref z) 2 >>= _) _ _ _
  refine wpAny_bind (wpAny_field hz rfl (x := .bool false) rfl ?_)
  show wpAny _ _ (field (.ref z) 3 >>= _) _ _ _
  refine wpAny_bind (wpAny_field hz rfl (x := .ref TI) rfl ?_)
  refine wpAny_bind (wpAny_seqItems hTI rfl ?_)
  show wpAny _ _ (Builtin.SmallTypes.ownedTupleIsFree (.ref z) >>= _) _ _ _
  refine wpAny_bind (wpAny_tupleHeld_zip hz hT fun g1 hz1 s1 => ?_)
  simp only [Bool.false_eq_true, if_false]
  refine wpAny_bind ?_
  rw [← Array.forIn_toList]
  simp only [List.forIn_cons, List.forIn_nil]
  refine wpAny_bind (wpAny_bind (wpAny_holding ?_))
  show wpAny _ _ (Builtin.SmallTypes.nextOf (.ref i1) >>= _) _ _ _
  refine wpAny_bind (N1.item _ _ { s with heap := g1 } k x _ (N1.ext h1 s1.extBut D.i1z D.l1z) hx fun g2 n1 s2 => wpAny_pure ?_)
  refine wpAny_pure ?_
  refine wpAny_bind (wpAny_bind (wpAny_holding ?_))
  show wpAny _ _ (Builtin.SmallTypes.nextOf (.ref i2) >>= _) _ _ _
  refine wpAny_bind (N2.item _ _ { s with heap := g2 } k y _ (N2.ext (N2.ext h2 s1.extBut D.i2z D.l2z) s2.extBut D.i12.symm D.l2i1) hy fun g3 n2 s3 => wpAny_pure ?_)
  refine wpAny_pure (wpAny_pure ?_)
  show wpAny _ _ (newTuple [x, y] >>= _) _ _ _
  refine wpAny_bind (wpAny_newTuple ?_)
  have hsz : g3.objs.size = s.heap.objs.size := by rw [s3.1, s2.1, s1.1]
  have hz3 : IsZipHeld g3 z TI TO T true := s3.extBut _ _ D.i2z.symm (s2.extBut _ _ D.i1z.symm hz1)
  have hk : ∀ c o, c ≠ z → c ≠ i1 → c ≠ i2 → s.heap.get? c = some o → g3.get? c = some o := fun c o c1 c2 c3 e => s3.extBut _ _ c3 (s2.extBut _ _ c2 (s1.extBut _ _ c1 e))
  have m1 : St1 g3 (k + 1) := N1.ext n1 s3.extBut D.i12 D.l1i2
  refine wpAny_pure ⟨_, rfl, ?_⟩
  show Q (.ref g3.objs.size) _
  have hp : IsPair (g3.push { cls := .type "tuple", data := .seq #[x, y] }) g3.objs.size x y := Heap.get?_push_size _ rfl
  have hz4 : (g3.push { cls := .type "tuple", data := .seq #[x, y] }).objs.size = g3.objs.size + 1 := Heap.size_push ..
  rw [hsz] at hp hz4 ⊢
  exact hQ _ (Heap.get?_push_of_some _ hz3) (N1.keep _ _ _ m1 (fun o e => Heap.get?_push_of_some _ e) fun o e => Heap.get?_push_of_some _ e) (N2.keep _ _ _ n2 (fun o e => Heap.get?_push_of_some _ e) fun o e => Heap.get?_push_of_some _ e) hp hz4 fun c o c1 c2 c3 e => Heap.get?_push_of_some _ (hk c o c1 c2 c3 e)
theorem next_end_held {Q : Fin → Shared → Prop} (hh : A.handled = none) (N1 : Nx prog w i1 l1 xs St1) (N2 : Nx prog w i2 l2 ys St2) (D : ZipApart z TI TO i1 i2 l1 l2)
    (hz : IsZipHeld s.heap z TI TO T f) (hT : s.heap.get? T = some oT) (hTI : IsPair s.heap TI (.ref i1) (.ref i2)) (h1 : St1 s.heap k) (h2 : St2 s.heap k) (hend : xs[k]? = none ∨ ys[k]? = none)
    (hE : ∀ h' e, (∀ c o, c ≠ z → c ≠ i1 → c ≠ i2 → s.heap.get? c = some o → h'.get? c = some o) → (∃ o, h'.get? e = some o ∧ o.cls = .type "StopIteration") → E (.ref e) { s with heap := h' }) :
    wpAny (model prog w) A (Builtin.«zip.__next__» ⟨[.ref z], []⟩) Q E s := by
  show wpAny _ _ (field (.ref z) 2 >>= _) _ _ _
  refine wpAny_bind (wpAny_field hz rfl (x := .bool false) rfl ?_)
  show wpAny _ _ (field (.ref z) 3 >>= _) _ _ _
  refine wpAny_bind (wpAny_field hz rfl (x := .ref TI) rfl ?_)
  refine wpAny_bind (wpAny_seqItems hTI rfl ?_)
  show wpAny _ _ (Builtin.SmallTypes.ownedTupleIsFree (.ref z) >>= _) _ _ _
  refine wpAny_bind (wpAny_tupleHeld_zip hz hT fun g1 hz1 s1 => ?_)
  simp only [Bool.false_eq_true, if_false]
  refine wpAny_bind ?_
  rw [← Array.forIn_toList]
  simp only [List.forIn_cons, List.forIn_nil]
  refine wpAny_bind (wpAny_bind (wpAny_holding ?_))
  show wpAny _ _ (Builtin.SmallTypes.nextOf (.ref i1) >>= _) _ _ _
  cases hx : xs[k]? with
  | none =>
    refine wpAny_bind (N1.fin _ _ { s with heap := g1 } k _ hh (N1.ext h1 s1.extBut D.i1z D.l1z) hx fun g2 e s2 he => ?_)
    exact hE g2 e (fun c o c1 c2 _ q => s2 _ _ c2 (s1.extBut _ _ c1 q)) he
  | some x =>
    have hy : ys[k]? = none := by rcases hend with h | h; rw [hx] at h; cases h; exact h
    refine wpAny_bind (N1.item _ _ { s with heap := g1 } k x _ (N1.ext h1 s1.extBut D.i1z D.l1z) hx fun g2 n1 s2 => wpAny_pure ?_)
    refine wpAny_pure ?_
    refine wpAny_bind (wpAny_bind (wpAny_holding ?_))
    show wpAny _ _ (Builtin.SmallTypes.nextOf (.ref i2) >>= _) _ _ _
    refine wpAny_bind (N2.fin _ _ { s with heap := g2 } k _ hh (N2.ext (N2.ext h2 s1.extBut D.i2z D.l2z) s2.extBut D.i12.symm D.l2i1) hy fun g3 e s3 he => ?_)
    exact hE g3 e (fun c o c1 c2 c3 q => s3 _ _ c3 (s2.extBut _ _ c2 (s1.extBut _ _ c1 q))) he
theorem py_item {Q : Option Value → Shared → Prop} (N1 : Nx prog w i1 l1 xs St1) (N2 : Nx prog w i2 l2 ys St2) (D : ZipApart z TI TO i1 i2 l1 l2)
    (hz : IsZip s.heap z TI TO .none) (hTI : IsPair s.heap TI (.ref i1) (.ref i2)) (hTO : IsPair s.heap TO a b) (h1 : St1 s.heap k) (h2 : St2 s.heap k) (hx : xs[k]? = some x) (hy : ys[k]? = some y)
    (hQ : ∀ h', IsZip h' z TI TO (rawInt s.heap.objs.size) → IsPair h' TO x y → St1 h' (k + 1) → St2 h' (k + 1) → IsPair h' s.heap.objs.size x y → h'.objs.size = s.heap.objs.size + 1 →
      (∀ c o, c ≠ z → c ≠ TO → c ≠ i1 → c ≠ i2 → s.heap.get? c = some o → h'.get? c = some o) → Q (some (.ref s.heap.objs.size)) { s with heap := h' }) : wpAny (model prog w) A (pyNext (.ref z)) Q E s := by
  have hT : s.TypeIs (.ref z) "zip" := ⟨_, hz, rfl⟩
  unfold pyNext
  exact wpAny_bind (wpAny_attempt (wpAny_callSpecial?_slot (name := Str.ofString "__next__") hT F.slot_zip_next (wpAny_call_entry F.slot_zip_next hT F.entry_zip_next
      (next_item N1 N2 D hz hTI hTO h1 h2 hx hy fun h' a1 a2 a3 a4 a5 a6 a7 => wpAny_pure (hQ h' a1 a2 a3 a4 a5 a6 a7)) (F.args_zip_next_1 _))))
theorem py_end {Q : Option Value → Shared → Prop} (hh : A.handled = none) (N1 : Nx prog w i1 l1 xs St1) (N2 : Nx prog w i2 l2 ys St2) (D : ZipApart z TI TO i1 i2 l1 l2)
    (hz : IsZip s.heap z TI TO .none) (hTI : IsPair s.heap TI (.ref i1) (.ref i2)) (hTO : IsPair s.heap TO a b) (h1 : St1 s.heap k) (h2 : St2 s.heap k) (hend : xs[k]? = none ∨ ys[k]? = none)
    (hQ : ∀ h', (∀ c o, c ≠ z → c ≠ TO → c ≠ i1 → c ≠ i2 → s.heap.get? c = some o → h'.get? c = some o) → Q none { s with heap := h' }) : wpAny (model prog w) A (pyNext (.ref z)) Q E s := by
  have hT : s.TypeIs (.ref z) "zip" := ⟨_, hz, rfl⟩
  unfold pyNext
  refine wpAny_bind (wpAny_attempt (wpAny_callSpecial?_slot (name := Str.ofString "__next__") hT F.slot_zip_next (wpAny_call_entry F.slot_zip_next hT F.entry_zip_next
    (next_end hh N1 N2 D hz hTI hTO h1 h2 hend fun h' e hk he => ?_) (F.args_zip_next_1 _))))
  obtain ⟨o, ho, hc⟩ := he
  refine wpAny_bind (wpAny_isInstance (T := "StopIteration") (b := true) ⟨o, ho, hc⟩ isSubtype_stop ?_)
  exact wpAny_pure (hQ _ hk)
theorem py_item_held {Q : Option Value → Shared → Prop} (N1 : Nx prog w i1 l1 xs St1) (N2 : Nx prog w i2 l2 ys St2) (D : ZipApart z TI TO i1 i2 l1 l2)
    (hz : IsZipHeld s.heap z TI TO T f) (hT : s.heap.get? T = some oT) (hTI : IsPair s.heap TI (.ref i1) (.ref i2)) (h1 : St1 s.heap k) (h2 : St2 s.heap k) (hx : xs[k]? = some x) (hy : ys[k]? = some y)
    (hQ : ∀ h', IsZipHeld h' z TI TO T true → St1 h' (k + 1) → St2 h' (k + 1) → IsPair h' s.heap.objs.size x y → h'.objs.size = s.heap.objs.size + 1 →
      (∀ c o, c ≠ z → c ≠ i1 → c ≠ i2 → s.heap.get? c = some o → h'.get? c = some o) → Q (some (.ref s.heap.objs.size)) { s with heap := h' }) : wpAny (model prog w) A (pyNext (.ref z)) Q E s := by
  have hTy : s.TypeIs (.ref z) "zip" := ⟨_, hz, rfl⟩
  unfold pyNext
  exact wpAny_bind (wpAny_attempt (wpAny_callSpecial?_slot (name := Str.ofString "__next__") hTy F.slot_zip_next (wpAny_call_entry F.slot_zip_next hTy F.entry_zip_next
      (next_item_held N1 N2 D hz hT hTI h1 h2 hx hy fun h' a1 a3 a4 a5 a6 a7 => wpAny_pure (hQ h' a1 a3 a4 a5 a6 a7)) (F.args_zip_next_1 _))))
theorem py_end_held {Q : Option Value → Shared → Prop} (hh : A.handled = none) (N1 : Nx prog w i1 l1 xs St1) (N2 : Nx prog w i2 l2 ys St2) (D : ZipApart z TI TO i1 i2 l1 l2)
    (hz : IsZipHeld s.heap z TI TO T f) (hT : s.heap.get? T = some oT) (hTI : IsPair s.heap TI (.ref i1) (.ref i2)) (h1 : St1 s.heap k) (h2 : St2 s.heap k) (hend : xs[k]? = none ∨ ys[k]? = none)
    (hQ : ∀ h', (∀ c o, c ≠ z → c ≠ i1 → c ≠ i2 → s.heap.get? c = some o → h'.get? c = some o) → Q none { s with heap := h' }) : wpAny (model prog w) A (pyNext (.ref z)) Q E s := by
  have hTy : s.TypeIs (.ref z) "zip" := ⟨_, hz, rfl⟩
  unfold pyNext
  refine wpAny_bind (wpAny_attempt (wpAny_callSpecial?_slot (name := Str.ofString "__next__") hTy F.slot_zip_next (wpAny_call_entry F.slot_zip_next hTy F.entry_zip_next
    (next_end_held hh N1 N2 D hz hT hTI h1 h2 hend fun h' e hk he => ?_) (F.args_zip_next_1 _))))
  obtain ⟨o, ho, hc⟩ := he
  refine wpAny_bind (wpAny_isInstance (T := "StopIteration") (b := true) ⟨o, ho, hc⟩ isSubtype_stop ?_)
  exact wpAny_pure (hQ _ hk)
end
section
variable {prog : Program} {w : World} {St1 St2 : Heap → Nat → Prop}
theorem pairArg (z TI TO i1 i2 l1 l2 : Addr) (D : ZipApart z TI TO i1 i2 l1 l2) (xs ys : Array Value) (N1 : Nx prog w i1 l1 xs St1) (N2 : Nx prog w i2 l2 ys St2) :
    PairArg prog w "zip" z [z, TI, TO, i1, i2, l1, l2] [z, TO, i1, i2] (min xs.size ys.size) (fun i k v => xs[i]? = some k ∧ ys[i]? = some v)
      (fun h => IsZip h z TI TO .none ∧ IsPair h TI (.ref i1) (.ref i2) ∧ (∃ a b, IsPair h TO a b) ∧ St1 h 0 ∧ St2 h 0) where
  type := fun s ok => ⟨_, ok.1, rfl⟩
  notDict := by decide
  keep := fun h h' ok hk => by
    obtain ⟨hz, hTI, ⟨a, b, hTO⟩, h1, h2⟩ := ok
    exact ⟨hk _ _ hz, hk _ _ hTI, ⟨a, b, hk _ _ hTO⟩, N1.keep _ _ _ h1 (fun o e => hk _ o e) (fun o e => hk _ o e), N2.keep _ _ _ h2 (fun o e => hk _ o e) fun o e => hk _ o e⟩
  there := fun h ok b hb => by
    obtain ⟨hz, hTI, ⟨a, c, hTO⟩, h1, h2⟩ := ok
    obtain ⟨t1, t2⟩ := N1.there _ _ h1
    obtain ⟨t3, t4⟩ := N2.there _ _ h2
    simp only [List.mem_cons, List.not_mem_nil, or_false] at hb
    rcases hb with rfl | rfl | rfl | rfl | rfl | rfl | rfl
    · exact ⟨_, hz⟩
    · exact ⟨_, hTI⟩
    · exact ⟨_, hTO⟩
    · exact t1
    · exact t3
    · exact t2
    · exact t4
  sub := fun b hb => by simp at hb ⊢; rcases hb with rfl | rfl | rfl | rfl <;> simp
  noKeys := fun A s Q E hA ok h => getAttrOr_miss_zip ok.1 rfl rfl rfl zip_no_keys (by decide +kernel) hA h
  iter := fun A s d Q E hA ok hd hdf h => by
    obtain ⟨hz, hTI, ⟨a, b, hTO⟩, h1, h2⟩ := ok
    simp only [List.mem_cons, List.not_mem_nil, or_false, not_or] at hdf
    obtain ⟨dz, dTI, dTO, di1, di2, dl1, dl2⟩ := hdf
    refine wpAny_pyIter_zip hz (h z [z, TO, i1, i2] (fun i h => IsPair h TI (.ref i1) (.ref i2) ∧ St1 h i ∧ St2 h i ∧
      ((IsZip h z TI TO .none ∧ ∃ a b, IsPair h TO a b) ∨ ∃ T f oT, IsZipHeld h z TI TO T f ∧ h.get? T = some oT ∧ T ≠ z ∧ T ≠ i1 ∧ T ≠ i2 ∧ T ≠ d)) s.heap s.toks ?_
      ⟨hTI, h1, h2, .inl ⟨hz, a, b, hTO⟩⟩ (fun _ _ e => e) fun b hb => .inl hb)
    exact {
      off := fun hm => by
        simp only [List.mem_cons, List.not_mem_nil, or_false] at hm
        rcases hm with e | e | e | e
        · exact dz e
        · exact dTO e
        · exact di1 e
        · exact di2 e
      frame := fun i h₁ h₂ st hk => by
        obtain ⟨hTI, h1, h2, hz⟩ := st
        refine ⟨hk _ _ (Ne.symm dTI) hTI, N1.keep _ _ _ h1 (fun o e => hk _ o (Ne.symm di1) e) (fun o e => hk _ o (Ne.symm dl1) e), N2.keep _ _ _ h2 (fun o e => hk _ o (Ne.symm di2) e) (fun o e => hk _ o (Ne.symm dl2) e), ?_⟩
        rcases hz with ⟨hz, a, b, hTO⟩ | ⟨T, f, oT, hz, hT, r1, r2, r3, r4⟩
        · exact .inl ⟨hk _ _ (Ne.symm dz) hz, a, b, hk _ _ (Ne.symm dTO) hTO⟩
        · exact .inr ⟨T, f, oT, hk _ _ (Ne.symm dz) hz, hk _ _ r4 hT, r1, r2, r3, r4⟩
      item := fun i s₁ Q₁ E₁ hi st hds hQ => by
        obtain ⟨hTI, h1, h2, hz⟩ := st
        have hix : i < xs.size := Nat.lt_of_lt_of_le hi (Nat.min_le_left ..)
        have hiy : i < ys.size := Nat.lt_of_lt_of_le hi (Nat.min_le_right ..)
        have ex := Array.getElem?_eq_getElem hix
        have ey := Array.getElem?_eq_getElem hiy
        have lt : ∀ {c o}, s₁.heap.get? c = some o → s₁.heap.objs.size ≠ c := fun e => Nat.ne_of_gt (Heap.lt_size e)
        have n1 : s₁.heap.objs.size ≠ i1 := let ⟨⟨_, e⟩, _⟩ := N1.there _ _ h1; lt e
        have n2 : s₁.heap.objs.size ≠ i2 := let ⟨⟨_, e⟩, _⟩ := N2.there _ _ h2; lt e
        rcases hz with ⟨hz, a, b, hTO⟩ | ⟨T, f, oT, hz, hT, r1, r2, r3, r4⟩
        · refine py_item N1 N2 D hz hTI hTO h1 h2 ex ey fun h' a1 a2 a3 a4 a5 a6 hk => ?_
          exact hQ s₁.heap.objs.size _ _ h' s₁.toks ⟨ex, ey⟩ (.inl ⟨_, a5, rfl, _, rfl⟩)
            ⟨hk _ _ D.TIz D.TITO D.TIi1 D.TIi2 hTI, a3, a4, .inr ⟨s₁.heap.objs.size, false, _, a1, a5, lt hz, n1, n2, Nat.ne_of_gt hds⟩⟩
            fun c o hc e => hk c o (fun x => hc (by simp [x])) (fun x => hc (by simp [x])) (fun x => hc (by simp [x])) (fun x => hc (by simp [x])) e
        · refine py_item_held N1 N2 D hz hT hTI h1 h2 ex ey fun h' a1 a3 a4 a5 a6 hk => ?_
          exact hQ s₁.heap.objs.size _ _ h' s₁.toks ⟨ex, ey⟩ (.inl ⟨_, a5, rfl, _, rfl⟩)
            ⟨hk _ _ D.TIz D.TIi1 D.TIi2 hTI, a3, a4, .inr ⟨T, true, oT, a1, hk _ _ r1 r2 r3 hT, r1, r2, r3, r4⟩⟩
            fun c o hc e => hk c o (fun x => hc (by simp [x])) (fun x => hc (by simp [x])) (fun x => hc (by simp [x])) e
      done := fun s₁ Q₁ E₁ st hQ => by
        obtain ⟨hTI, h1, h2, hz⟩ := st
        have hend : xs[min xs.size ys.size]? = none ∨ ys[min xs.size ys.size]? = none := by
          rcases Nat.le_total xs.size ys.size with h | h
          · exact .inl (Array.getElem?_eq_none (by rw [Nat.min_eq_left h]; exact Nat.le_refl _))
          · exact .inr (Array.getElem?_eq_none (by rw [Nat.min_eq_right h]; exact Nat.le_refl _))
        rcases hz with ⟨hz, a, b, hTO⟩ | ⟨T, f, oT, hz, hT, r1, r2, r3, r4⟩
        · exact py_end hA N1 N2 D hz hTI hTO h1 h2 hend fun h' hk => hQ h' s₁.toks fun c o hc e => hk c o (fun x => hc (by simp [x])) (fun x => hc (by simp [x])) (fun x => hc (by simp [x])) (fun x => hc (by simp [x])) e
        · exact py_end_held hA N1 N2 D hz hT hTI h1 h2 hend fun h' hk => hQ h' s₁.toks fun c o hc e => hk c o (fun x => hc (by simp [x])) (fun x => hc (by simp [x])) (fun x => hc (by simp [x])) e }
end
abbrev zm1 (h : Heap) (l1 : Addr) : Heap := h.push { cls := .type "list_iterator", data := .fields #[.ref l1, .int 0 0] }
abbrev zm2 (h : Heap) (l1 l2 : Addr) : Heap := (zm1 h l1).push { cls := .type "tuple_iterator", data := .fields #[.ref l2, .int 0 0] }
abbrev zm3 (h : Heap) (l1 l2 : Addr) : Heap := (zm2 h l1 l2).push { cls := .type "tuple", data := .seq #[.ref h.objs.size, .ref (zm1 h l1).objs.size] }
abbrev zm4 (h : Heap) (l1 l2 : Addr) : Heap := (zm3 h l1 l2).push { cls := .type "tuple", data := .seq #[.none, .none] }
abbrev zm5 (h : Heap) (l1 l2 : Addr) : Heap := (zm4 h l1 l2).push { cls := .type "zip", data := .fields #[.none, .bool false, .bool false, .ref (zm2 h l1 l2).objs.size, .ref (zm3 h l1 l2).objs.size] }
theorem meets_new (l1 l2 : Addr) (xs ys : Array Value) :
    Meets (Builtin.«zip.__new__» ⟨[.type "zip", .ref l1, .ref l2], []⟩) (fun _ R s => s.heap.IsList l1 xs ∧ s.heap.IsTuple l2 ys ∧
      R (.ok (.ret (.ref (zm4 s.heap l1 l2).objs.size))) { s with heap := zm5 s.heap l1 l2 }) :=
  .of_wp fun prog w A R s h => by
    obtain ⟨hp, g, d, tk, os⟩ := s; obtain ⟨hl1, hl2, h⟩ := h
    have hsub := sub_zip
    have hL1 : Heap.IsList (Shared.heap ⟨hp, g, d, tk, os⟩) l1 xs := hl1
    have hL2 : Heap.IsTuple (Shared.heap ⟨hp.push { cls := .type "list_iterator", data := .fields #[.ref l1, .int 0 0] }, g, d, tk, os⟩) l2 ys := Heap.IsTuple.push hl2 _
    wp_walk using wpAny_pyIter_list hL1, wpAny_pyIter_tuple hL2
    exact ⟨_, rfl, h⟩
section
variable {prog : Program} {w : World} {A : Around} {E : Value → Shared → Prop} {s : Shared}
theorem call_zipM {l1 l2 : Addr} {xs ys : Array Value} {Q : Value → Shared → Prop} (hl1 : s.heap.IsList l1 xs) (hl2 : s.heap.IsTuple l2 ys)
    (h : ∀ h', IsZip h' (s.heap.objs.size + 4) (s.heap.objs.size + 2) (s.heap.objs.size + 3) .none → IsPair h' (s.heap.objs.size + 2) (.ref s.heap.objs.size) (.ref (s.heap.objs.size + 1)) →
      IsPair h' (s.heap.objs.size + 3) .none .none → h'.IsListIter s.heap.objs.size l1 0 → h'.IsTupleIter (s.heap.objs.size + 1) l2 0 → h'.objs.size = s.heap.objs.size + 5 →
      (∀ c o, s.heap.get? c = some o → h'.get? c = some o) → Q (.ref (s.heap.objs.size + 4)) { s with heap := h' }) :
    wpAny (model prog w) A (call (.type "zip") [.ref l1, .ref l2]) Q E s := by
  refine callType_new F.called_zip (by decide) (F.typeCall_zip_2 _ _) (F.newCall_zip_2 _ _) (fun obj => F.args_object_init_3 obj _ _) F.entry_zip_new
    (meets_new l1 l2 xs ys) ⟨hl1, hl2, ?_⟩
  have z1 : (zm1 s.heap l1).objs.size = s.heap.objs.size + 1 := Heap.size_push ..
  have z2 : (zm2 s.heap l1 l2).objs.size = s.heap.objs.size + 2 := by rw [Heap.size_push, z1]
  have z3 : (zm3 s.heap l1 l2).objs.size = s.heap.objs.size + 3 := by rw [Heap.size_push, z2]
  have z4 : (zm4 s.heap l1 l2).objs.size = s.heap.objs.size + 4 := by rw [Heap.size_push, z3]
  have z5 : (zm5 s.heap l1 l2).objs.size = s.heap.objs.size + 5 := by rw [Heap.size_push, z4]
  have g5 : (zm5 s.heap l1 l2).get? (zm4 s.heap l1 l2).objs.size = some _ := Heap.get?_push_size _ rfl
  have g4 : (zm5 s.heap l1 l2).get? (zm3 s.heap l1 l2).objs.size = some _ := Heap.get?_push_of_some _ (Heap.get?_push_size _ rfl)
  have g3 : (zm5 s.heap l1 l2).get? (zm2 s.heap l1 l2).objs.size = some _ := Heap.get?_push_of_some _ (Heap.get?_push_of_some _ (Heap.get?_push_size _ rfl))
  have g2 : (zm5 s.heap l1 l2).get? (zm1 s.heap l1).objs.size = some _ := Heap.get?_push_of_some _ (Heap.get?_push_of_some _ (Heap.get?_push_of_some _ (Heap.get?_push_size _ rfl)))
  have g1 : (zm5 s.heap l1 l2).get? s.heap.objs.size = some _ := Heap.get?_push_of_some _ (Heap.get?_push_of_some _ (Heap.get?_push_of_some _ (Heap.get?_push_of_some _ (Heap.get?_push_size _ rfl))))
  show _ ∧ _
  rw [z2, z3, z4] at g5
  rw [z1, z2] at g3
  rw [z3] at g4
  rw [z1] at g2
  rw [z4]
  exact ⟨⟨_, g5, rfl⟩, h _ g5 g3 g4 ⟨_, g1, rfl, rfl⟩ ⟨_, g2, rfl, rfl⟩ z5 fun c o x =>
    Heap.get?_push_of_some _ (Heap.get?_push_of_some _ (Heap.get?_push_of_some _ (Heap.get?_push_of_some _ (Heap.get?_push_of_some _ x))))⟩
end
end DLZ
namespace DL
open PySem PySem.Spec PyProof.Rows L2
theorem relDs_keys {K : PySem.W.Frag} {F : Hp} : ∀ {ks : List DK} {vs : List V}, RelDs K F (ks.map kD) vs → vs = ks.map fun k => kV (kk k)
  | [], vs, h => h.nil_inv
  | k :: ks, vs, h => by
    obtain ⟨v, q, rfl, h1, h2⟩ := h.cons_inv
    rw [kD_rel h1, relDs_keys h2]
    rfl
theorem kv_zip : ∀ {ks : List Key} {vs : List V} {us : List Value}, Vals vs us → KV (ks.zip vs) (ks.zip us)
  | [], _, _, _ => .nil
  | _ :: _, _, _, .nil => .nil
  | k :: ks, _, _, .cons h t => .cons ⟨rfl, h⟩ (kv_zip t)
theorem relF_zip {K : PySem.W.Frag} {F : Hp} : ∀ {ks : List DK} {fs : List DL.D} {vs : List V}, RelDs K F fs vs → RelF K F (kmap (ks.zip fs)) ((ks.map kk).zip vs)
  | [], _, _, _ => rfl
  | k :: ks, [], vs, h => by
    rw [h.nil_inv]
    exact rfl
  | k :: ks, d :: fs, vs, h => by
    obtain ⟨v, q, rfl, h1, h2⟩ := h.cons_inv
    exact ⟨v, _, rfl, h1, relF_zip h2⟩
section
variable {X : Cx} {F0 : Ent}
def tdDictZ (tr : TDs) : TD := fun ρ S Q => tr ρ S fun ds S1 => ∃ (ks : List DK) (fs : List DL.D), ds = [.lst (ks.map kD), .tup fs] ∧ ks.length ≤ 100000 ∧ ∀ p, S1 p = none → Q (.ref p) (sup S1 p (.dic (mergeD [] (ks.zip fs))))
theorem de_dictZ {e e2 : Expr} {p p2 pos pos2 : Pos} {tr : TDs} (hcalm : X.calm = true) (hg : Gl X "dict") (hm : X.mg "dict" = none) (hg2 : Gl X "zip") (hm2 : X.mg "zip" = none) (ha : DA X F0 [e, e2] tr)
    (hs : starEach [e, e2] X.env = (false, eval e X.env) :: starEach [e2] X.env := by rfl) (hpl : (backTo pos2 (starEach [e2] X.env)).any (·.1) = false := by rfl) :
    DE X F0 (.Call (.Name "dict" p) [.Call (.Name "zip" p2) [e, e2] [] pos2] [] pos) (tdDictZ tr) := by
  refine ⟨fun pins s σ H Q I ⟨F, S, ρ, Q', at0, h, pp⟩ => ?_⟩
  have h' : tr ρ S fun ds S1 => ∃ (ks : List DK) (fs : List DL.D), ds = [.lst (ks.map kD), .tup fs] ∧ ks.length ≤ 100000 ∧ ∀ p, S1 p = none → Q' (.ref p) (sup S1 p (.dic (mergeD [] (ks.zip fs)))) := h
  refine Call_ (ld_blt I hg hm bb_dict ?_)
  refine callWith_type1 (args_cons ?_ rfl) rfl rfl
  refine Call_ (ld_blt I hg2 hm2 boot_zip (callWith_type1 (thn (ha.run pos2 pins s σ H _ I (DL.AL.go at0 h' fun vs H1 F1 S1 ds x1 a1 r1 q1 => (⟨F1, S1, ds, x1, a1, r1, q1⟩ :
    ∃ F1 S1 ds, Ext F S H F1 S1 H1 ∧ At X.K F0 F1 S1 H1 ρ σ ∧ RelDs X.K F1 ds vs ∧ ∃ (ks : List DK) (fs : List DL.D), ds = [.lst (ks.map kD), .tup fs] ∧ ks.length ≤ 100000 ∧ ∀ p, S1 p = none → Q' (.ref p) (sup S1 p (.dic (mergeD [] (ks.zip fs))))))) fun us s1 ⟨vs, H1, I1, r1, F1, S1, ds, x1, a1, r2, ks, fs, e1, hl, q⟩ => ?_) hs hpl))
  subst e1
  obtain ⟨v, w, rfl, rv, rw'⟩ := rds2 r2
  obtain ⟨l1, xs, rfl, k1, k2⟩ := rv.lst_e
  obtain ⟨l2, ys, rfl, k3, k4⟩ := rw'.tup_e
  have ex := relDs_keys k2
  cases r1 with
  | cons r r1 =>
    cases r1 with
    | cons r' r1 =>
      cases r1
      cases r
      cases r'
      obtain ⟨its, v1, p1, _⟩ := I1.list (SqL.of (a1.sr.fro _ _ k1))
      obtain ⟨its2, v2, p3, hz2⟩ := I1.tuple (seqT a1.sr.fro k3)
      have len1 : its.length = ks.length := by rw [← v1.length, ex, List.length_map]
      obtain ⟨o2, ho2, _⟩ := id p3
      refine DLZ.call_zipM p1.isList (show s1.heap.IsTuple l2 its2.toArray from p3) fun h' hz hTI hTO h1 h2 hsz hk => ?_
      refine args_nil ?_
      have I2 : Inv X pins σ H1 { s1 with heap := h' } := I1.kept (t' := s1.toks) hk
      have D : ZipApart (s1.heap.objs.size + 4) (s1.heap.objs.size + 2) (s1.heap.objs.size + 3) s1.heap.objs.size (s1.heap.objs.size + 1) l1 l2 := PySem.W.ktu_apart s1.heap.objs.size l1 l2 p1.lt (Heap.lt_size ho2)
      refine PySem.call_dict_pairs (s := { s1 with heap := h' }) (knd := mixKind X.prog X.w) (kvs := (ks.map kk).zip its2)
        (DLZ.pairArg (prog := X.prog) (w := X.w) _ _ _ _ _ l1 l2 D its.toArray its2.toArray (DLZ.nx_list _ l1 D.l1i1 its.toArray) (DLZ.nx_tuple _ l2 D.l2i2 its2.toArray)) (I.ok.hd hcalm)
        ⟨hz, hTI, ⟨_, _, hTO⟩, ⟨h1, p1.isList.at fun o e => hk _ o e⟩, ⟨h2, (show s1.heap.IsTuple l2 its2.toArray from p3).at fun o e => hk _ o e⟩⟩ ⟨?_, fun i key v hr => ?_⟩ ?_ fun h'' tk hd' hk' => ?_
      · rw [List.length_zip, List.length_map, List.size_toArray, List.size_toArray, len1]
      · obtain ⟨g1, g2⟩ := hr
        rw [List.getElem?_toArray] at g1 g2
        obtain ⟨hlt, _⟩ := List.getElem?_eq_some_iff.mp g1
        have hlt2 : i < ks.length := by omega
        refine ⟨kk ks[i], ?_, ?_⟩
        · rw [List.getElem?_zip_eq_some]
          exact ⟨by rw [List.getElem?_map, List.getElem?_eq_getElem hlt2]; rfl, g2⟩
        · obtain ⟨u, g3, g4⟩ := v1.get (i := i) (x := kV (kk ks[i])) (by rw [ex, List.getElem?_map, List.getElem?_eq_getElem hlt2]; rfl)
          rw [g1] at g3
          cases g3
          exact kV_is g4
      · have := sz5 (n := 100000) (by decide)
        rw [List.size_toArray, List.size_toArray]
        omega
      · have hnew : h'.objs.size = s1.heap.objs.size + 5 := hsz
        have hm' : (h'.objs.size == sysModules) = false := beq_eq_false_iff_ne.mpr (Nat.ne_of_gt I2.big)
        have hrel : KV (mergeK [] ((ks.map kk).zip ys)) (merged [] ((ks.map kk).zip its2)) := KV.merge (kv_zip v2) .nil
        have hlen : (mergeK [] ((ks.map kk).zip ys)).length ≤ sizeLine := by
          refine Nat.le_trans (length_mergeK _ []) ?_
          rw [List.length_nil, Nat.zero_add, List.length_zip, List.length_map]
          have := sz5 (n := 100000) (by decide)
          omega
        have nH : H1 h'.objs.size = none := I2.hok.fresh (Nat.le_refl _)
        have hr := mergeD_rel (K := X.K) (F := F1) (more := ks.zip fs) (kvs := []) (ws := []) (relF_zip k4) rfl
        refine ⟨.ref h'.objs.size, upd H1 h'.objs.size (.dK (mergeK [] ((ks.map kk).zip ys))), ?_, rfl, ?_⟩
        · exact I1.laid (t' := tk) (fun b u e => hk' b u (fun hb => by
            have hlt := Heap.lt_size e
            simp only [List.mem_cons, List.not_mem_nil, or_false] at hb
            rcases hb with z | z | z | z <;> rw [z] at hlt
            · exact absurd hlt (Nat.not_lt.mpr (Nat.le_add_right _ _))
            · exact absurd hlt (Nat.not_lt.mpr (Nat.le_add_right _ _))
            · exact absurd hlt (Nat.lt_irrefl _)
            · exact absurd hlt (Nat.not_lt.mpr (Nat.le_add_right _ _))) (hk b u e)) (by rw [hnew]; exact Nat.le_add_right _ _) (show ObjOk X.prog X.w _ _ _ (.dK _) from ⟨hlen, hm', _, hrel, hd'⟩)
        · exact pp.of (x1.trans (a1.sr.ext_box (o := .dic (mergeD [] (ks.zip fs))) nH)) (a1.sr.box (o := .dic (mergeD [] (ks.zip fs))) nH ⟨_, rfl, hr⟩) (.ref_i _) (q _ (a1.sr.snone nH))
end
end DL
namespace DL
open PySem PySem.Spec PyProof.Rows L2
section
variable {X : Cx} {d : Nat} {f C : Addr} {fd : FuncData} {ps : List Str} {sp : Sp} {E : XK} {x m : Str} {p pos apos : Pos} {e o : Expr} {es : List Expr} {ta : TE} {t : TA} {dvs : List V} {ds : List Value}
theorem goes_fnV {pins : List (Addr × Obj)} {σ : L2.St} {H : Hp} {s : Shared} {Q : VK} {ws : List Value} {us : List V} (G : FnD X.prog X.w X.K X.mg X.base d f fd ps sp) (hr : Rm d X.A) (hb : Binds X.K fd ps ds) (hv : Vals dvs ds) (hx : Passes (L2.CX X.prog X.w) X E)
    (I : Inv X pins σ H s) (r : Vals us ws) (h : sp (us ++ dvs) H Q E) : wpAny (model X.prog X.w) X.A (call (.ref f) ws) (EP X pins σ Q) X.xe s := by
  have r2 := r.append hv
  have hl : (ws ++ ds).length = ps.length := by rw [← r2.length]; exact G.many _ _ _ _ h
  have bb := hb s ws I.kIn hl
  refine wpAny_call (codeAny_mono (G.goes X.A X.stack s H ⟨ws, []⟩ (ws ++ ds) (us ++ dvs) Q E hr I.env0 bb r2 h) fun z s' hq => ?_)
  match z, hq with
  | .error e, hq => exact hx pins σ H s e s' I hq
  | .ok (.ret u), hq => exact I.after hq
theorem pd_callV (G : FnD X.prog X.w X.K X.mg X.base d f fd ps sp) (hr : Rm d X.A) (hg : Gl X x) (hm : X.mg x = some (.ref f)) (hk : PySem.W.keepIn X.K (.ref f) = true) (hb : Binds X.K fd ps ds) (hv : Vals dvs ds) (hx : Passes (L2.CX X.prog X.w) X E)
    (ha : PA X (e :: es) t) (hdb : (x == ("__debug__" : Str)) = false := by decide) (he : starEach (e :: es) X.env = (false, eval e X.env) :: starEach es X.env := by rfl) (hpl : (backTo pos (starEach es X.env)).any (·.1) = false := by rfl) :
    PE X (.Call (.Name x p) (e :: es) [] pos) (tCall sp dvs E t) :=
  ⟨fun pins s σ H Q I h => wpAny_Call_Name_kw (ld_glob I hg hm (PySem.W.callWith_K (h₀ := X.base) I.ok.mod.kin hk (thn (ha.run pos pins s σ H _ I h) fun ws s1 ⟨us, H1, I1, r, q⟩ => ⟨I1.kIn, goes_fnV G hr hb hv hx I1 r q⟩) he hpl) hdb)⟩
end
section
variable {P : Program} {w : World} {K : PySem.W.Frag} {mg : Str → Option Value} {base : Heap}
theorem fnd_ofV {x qual : Str} {st : Stmt} {f : Addr} {fd : FuncData} {N ps : List Str} {d : Nat} {sp : Sp} {dvs : List V} (Fn : FunD K x qual (defArgs st) (defBody st) (defScope st) dvs [] f fd) (Sc : FnScope N ps (defScope st)) (many : ∀ us H Q E, sp us H Q E → us.length = ps.length)
    (hbody : ∀ (cdv : Value) (A : Around) (outer : List Env) (s : Shared) (H : Hp) (us : List V) (Q : VK) (E : XK), Rm d (A.deeper (envOfC qual (defScope st) s.heap.objs.size f cdv)) → sp us H Q E →
      ∃ t, PSs (cxOf (L2.CX P w) P w K mg base N qual (defScope st) f cdv A outer s H E) (defBody st) t ∧ t { nx := fun _ H' => Q .non H', rt := Q } (start N us) H) :
    FnD P w K mg base (d + 1) f fd ps sp := by
  obtain ⟨oc, od, dV, kV, doc, pm, an, cdv, ct, osl, rfl, lk, hcd, _, _⟩ := Fn.ex
  refine ⟨many, fun A outer s H args ws us Q E hr e0 hb r hsp => ?_⟩
  have KX : K.In s.heap := e0.mod.kin.keeps fun b o z => (e0.bs b o z).1
  have hkind : ∀ y ∈ ps.zip ws, (defScope st).names.lookup y.1 = some .local ∨ ((defScope st).names.lookup y.1 = some .cell ∧ ((cellsFrom (s.heap.objs.size + 1) (defScope st).names []).lookup y.1).isSome = true) := fun ⟨n, v⟩ hy =>
    (Sc.par n (List.of_mem_zip hy).1).imp id fun q => ⟨q, PySem.W.cellsFrom_some _ _ _ (.inl q)⟩
  refine codeAny_call_function (by have z := hr.dep; omega) (KX _ _ lk) rfl Sc.co Sc.gen rfl (PySem.W.codeRec_of KX hcd) (hb _ _ _ _ (wpAny_newFunctionEnv_cells Sc.kind hkind fun env he s1 y => ?_))
  subst he
  obtain ⟨t, ht, hq⟩ := hbody cdv A outer s H us Q E (hr.body _) hsp
  have I : Inv (cxOf (L2.CX P w) P w K mg base N qual (defScope st) f cdv A outer s H E) [] (start N us) H s1 := inv_start Sc hr.noh e0 (many _ _ _ _ hsp) r y
  refine ⟨(e0.mod.nolimit.keeps fun b o z => (e0.bs b o z).1).keeps y.toInCall.keep, codeAny_func (wpAny_mono (ht.run [] s1 (start N us) H _ I hq) (fun fl s' hs => ?_) fun e s' hs => hs)⟩
  have fin : ∀ {σ' : L2.St} {H' : Hp} {v : V} {u : Value}, Inv (cxOf (L2.CX P w) P w K mg base N qual (defScope st) f cdv A outer s H E) [] σ' H' s' → RelV v u → Q v H' → CE outer P w H s Q u s' :=
    fun {σ' H' v u} J rv q => ⟨v, H', J.os, J.bare, J.base, J.hok, rv, q⟩
  match fl, hs with
  | .ret u, ⟨v, σ', H', J, rv, q⟩ => exact fin J rv q
  | .next, ⟨σ', H', J, q⟩ => exact fin (v := V.non) (u := Value.none) J rfl q
  | .brk, ⟨_, _, _, q⟩ => exact q.elim
  | .cont, ⟨_, _, _, q⟩ => exact q.elim
theorem df_ofV {x qual : Str} {st : Stmt} {f : Addr} {fd : FuncData} {N ps : List Str} {k : Nat} {m : M} {t : XD → TDS} {dvs : List V} (Fn : FunD K x qual (defArgs st) (defBody st) (defScope st) dvs [] f fd) (Sc : FnScope N ps (defScope st))
    (body : ∀ (cdv : Value) (A : Around) (outer : List Env) (s : Shared) (H : Hp) (E : XK) (F0 : Ent) (E' : XD), BC (cxOf (L2.CX P w) P w K mg base N qual (defScope st) f cdv A outer s H E) F0 k E' →
      DSs (cxOf (L2.CX P w) P w K mg base N qual (defScope st) f cdv A outer s H E) F0 (defBody st) (t E'))
    (read : ∀ (ds : List D) (S : Store) (Q : D → Store → Prop) (E : XD), ds.length = ps.length → m ds S Q E → t E { nx := fun _ S' => Fini Q .non S', rt := Fini Q } (startD N ds) S) :
    DF P w K mg base (k + 1) f fd ps m := by
  refine fnd_ofV Fn Sc (fun vs H Q E ⟨F, S, ds, Q', E', h1, h2, h3, h4, h5, h6⟩ => by rw [h2.length, h3]) fun cdv A outer s H vs Q E hr ⟨F, S, ds, Q', E', h1, h2, h3, h4, h5, h6⟩ => ?_
  have B : BC (cxOf (L2.CX P w) P w K mg base N qual (defScope st) f cdv A outer s H E) ⟨F, S, H⟩ k E' :=
    ⟨hr, rfl, _, takes_of rfl rfl rfl rfl, fun F' S' H' y cls od σ hl z sr er q => h6 F' S' H' y cls od z sr er q⟩
  refine ⟨_, body cdv A outer s H E ⟨F, S, H⟩ E' B, F, S, startD N ds, _, ⟨Ext.refl _ _ _, h1, startD_rel h2⟩, read ds S Q' E' h3 h4, ?_, ?_, ?_, ?_⟩
  · exact fun σ' H' F' S' ρ' z sr ev q => fini_go h5 z sr .non_i q
  · exact fun v H' F' S' d z sr rd q => fini_go h5 z sr rd q
  · exact fun _ _ _ _ _ _ _ _ q => q
  · exact fun _ _ _ _ _ _ _ _ q => q
end
/-- a def whose last parameters may be left out: dds -/
structure CaV (P : Program) (w : World) (K : PySem.W.Frag) (mg : Str → Option Value) (base : Heap) (k : Nat) (x : Str) (ps : List Str) (dds : List D) (m : M) : Prop where
  ex : ∃ (f : Addr) (fd : FuncData) (dvs : List V) (ds : List Value), DF P w K mg base k f fd ps m ∧ mg x = some (.ref f) ∧ PySem.W.keepIn K (.ref f) = true ∧ Binds K fd ps ds ∧ Vals dvs ds ∧ ∀ F, RelDs K F dds dvs
theorem CaV.mono {P : Program} {w : World} {K : PySem.W.Frag} {mg : Str → Option Value} {base : Heap} {k j : Nat} {x : Str} {ps : List Str} {dds : List D} {m : M} (G : CaV P w K mg base j x ps dds m) (h : j ≤ k) : CaV P w K mg base k x ps dds m := let ⟨f, fd, dvs, ds, h1, h2⟩ := G.ex; ⟨f, fd, dvs, ds, h1.mono h, h2⟩
section
variable {X : Cx} {F0 : Ent} {e o : Expr} {es : List Expr} {to te : TD} {tr : TDs} {p apos pos : Pos} {x mn : Str} {C : Addr} {k : Nat} {E' : XD} {ps : List Str} {m : M} {dds : List D}
def tdCallV (m : M) (n : Nat) (dds : List D) (E' : XD) (t : TDs) : TD := fun ρ S Q => t ρ S fun ds S1 => (ds ++ dds).length = n ∧ m (ds ++ dds) S1 Q E'
theorem de_caV (G : CaV X.prog X.w X.K X.mg X.base k x ps dds m) (B : BC X F0 k E') (hg : Gl X x) (ha : DA X F0 (e :: es) tr)
    (hdb : (x == ("__debug__" : Str)) = false := by decide) (he : starEach (e :: es) X.env = (false, eval e X.env) :: starEach es X.env := by rfl) (hpl : (backTo pos (starEach es X.env)).any (·.1) = false := by rfl) :
    DE X F0 (.Call (.Name x p) (e :: es) [] pos) (tdCallV m ps.length dds E' tr) := by
  obtain ⟨f, fd, dvs, ds, h1, h2, h3, h4, h5, h6⟩ := G.ex
  obtain ⟨E, hp, hE⟩ := B.pass
  exact PE.weak (pd_callV (E := E) h1 B.room hg h2 h3 h4 h5 hp ha hdb he hpl) fun σ H Q ⟨F, S, ρ, Q', a, h, pp⟩ => AL.go a h fun vs H1 F1 S1 es x1 a1 r1 ⟨q0, q1⟩ =>
    ⟨F1, S1, es ++ dds, Q', E', a1.sr, r1.append (h6 F1), q0, q1, pp.ext x1, fun F' S' H' y cls od z sr er q => hE F' S' H' y cls od (a1.f0.trans z) sr er q⟩
end
end DL
namespace DL
open PySem PySem.Spec L2
section
variable {X : Cx}
def gKIn (f : Bool → Bool) : DOp := fun S x y Q => ∃ a kvs k, y = .ref a ∧ S a = some (.dic kvs) ∧ x = kD k ∧ Q (.bl (f (hasD kvs k))) S
theorem kin_case {K : PySem.W.Frag} {F : Hp} {S : Store} {H : Hp} {x y : D} {v u : V} {Q' : D → Store → Prop} {Q : VK} {f : Bool → Bool} (sr : SR K F S H) (rx : RelD K F x v) (ry : RelD K F y u) (h : gKIn f S x y Q') (p : Post K F S H Q' Q) :
    ∃ a o, u = .ref a ∧ DGet H a v o ∧ Q (.bl (f o.isSome)) H := by
  obtain ⟨b, kvs, k, e1, e2, e3, q⟩ := h
  subst e1 e3
  obtain rfl := ry.ref_e
  obtain ⟨ws, h1, h2⟩ := sr.dic e2
  refine ⟨b, valV ws (kk k), rfl, by rw [kD_rel rx]; exact DGet.k h1, ?_⟩
  rw [← valV_any, hasD_rel h2]
  exact p.of (Ext.refl _ _ _) sr (.bl_i _) q
theorem od_inK (hu : X.A.units + 65 < cLine) : OpR X (compareOp .In) (OL X.K (gKIn id)) := by
  intro pins s σ H x y v u Q I rx ry ⟨F, S, dx, dy, Q', sr, r1, r2, g, p⟩
  obtain ⟨a, o, rfl, g, q⟩ := kin_case sr r1 r2 g p
  obtain rfl : u = Value.ref a := ry
  exact d_in (by omega) I g rx fun s3 I3 => ⟨.bl o.isSome, H, I3, rfl, q⟩
theorem od_ninK (hu : X.A.units + 65 < cLine) : OpR X (compareOp .NotIn) (OL X.K (gKIn not)) := by
  intro pins s σ H x y v u Q I rx ry ⟨F, S, dx, dy, Q', sr, r1, r2, g, p⟩
  obtain ⟨a, o, rfl, g, q⟩ := kin_case sr r1 r2 g p
  obtain rfl : u = Value.ref a := ry
  exact d_notIn (by omega) I g rx fun s3 I3 => ⟨.bl (!o.isSome), H, I3, rfl, q⟩
def gIsnB : DOp := fun S x y Q => ∃ a b, x = .bl a ∧ y = .bl b ∧ Q (.bl (!decide (a = b))) S
theorem od_isnB : OpR X (compareOp .IsNot) (OL X.K gIsnB) :=
  OpR.weak op_isnot_bl fun x y H Q ⟨F, S, dx, dy, Q', sr, rx, ry, ⟨a, b, e1, e2, q⟩, p⟩ => by
    subst e1 e2
    exact ⟨a, b, rx.bl_e, ry.bl_e, p.of (Ext.refl _ _ _) sr (.bl_i _) q⟩
end
end DL
namespace DL
open PySem PySem.Spec L2
section
variable {X : Cx} {F0 : Ent}
def tdLcB (ti : TDI) (v : Nat) (tt : TDT) (te : TD) : TD := fun ρ S Q => ti ρ S fun ds S1 => lcR v tt te ρ ds [] S1 fun ys S2 => ∀ p, S2 p = none → Q (.ref p) (sup S2 p (.lst ys))
theorem lcB_go {ti : TDI} {v : Nat} {tt : TDT} {te : TD} {K : PySem.W.Frag} {σ : L2.St} {H : Hp} {Q : VK} (h : EL K F0 (tdLcB ti v tt te) σ H Q) : tLc (IL K F0 ti) (gName v) (TL K F0 tt) (EL K F0 te) [v] σ H Q := by
  obtain ⟨F, S, ρ, Q', a, h, p⟩ := h
  refine IL.go a h fun J H1 F1 S1 ds x1 a1 it q1 D hD => ?_
  refine ⟨fun i m H => m = ds.length - i ∧ i ≤ ds.length ∧ ∃ F S acc vs, Ext F1 S1 (upd H1 D (.lst vs)) F S H ∧ SR K F S H ∧ RelDs K F acc vs ∧ lcR v tt te ρ (ds.drop i) acc S fun ys S2 => ∀ p, S2 p = none → Q' (.ref p) (sup S2 p (.lst ys)),
    ⟨ds.length, by omega, Nat.zero_le _, F1, S1, [], [], Ext.refl _ _ _, a1.sr.laid hD, .nil, q1⟩, ?_⟩
  rintro i m H2 ⟨rfl, hi, F2, S2, acc, vs, x2, sr2, racc, q2⟩
  have sm : Same F1 H2 := x2.same.trans sr2.fro
  obtain ⟨nF, nS, hH⟩ := x2.laid_none a1.sr hD
  by_cases hlt : i < ds.length
  · refine .inr ⟨it.go i H2 sm hlt, fun H => ∃ F S acc vs, Ext F1 S1 (upd H1 D (.lst vs)) F S H ∧ SR K F S H ∧ RelDs K F acc vs ∧ lcR v tt te ρ (ds.drop (i + 1)) acc S fun ys S2 => ∀ p, S2 p = none → Q' (.ref p) (sup S2 p (.lst ys)), fun H' n => ⟨ds.length - (i + 1), by omega, rfl, hlt, n⟩, fun x H' y => ?_⟩
    obtain ⟨F3, d, x3, sr3, hd, rd⟩ := it.yld i x H2 H' F2 S2 x2.same sr2 y hlt
    have e : ds.drop i = d :: ds.drop (i + 1) := by
      rw [List.drop_eq_getElem_cons hlt]
      congr 1
      rw [List.getElem?_eq_getElem hlt] at hd
      exact Option.some.inj hd
    rw [e] at q2
    have x13 : Ext F1 S1 (upd H1 D (.lst vs)) F3 S2 H' := x2.trans x3
    have a3 : At K F0 F3 S2 H' (ρ.set v (some d)) ((wipe σ [v]).set v (some x)) := by
      refine ⟨a1.f0.trans ((Ext.laid hD).trans x13), sr3, ?_⟩
      have h0 : (wipe σ [v]).set v (some x) = σ.set v (some x) := by
        show (σ.set v none).set v (some x) = _
        rw [List.set_set]
      rw [h0]
      exact (a1.env.mono x13.same).set rd v
    refine ⟨?_, ?_⟩
    · show ((σ.set v none).set v (some x)).set v none = σ.set v none
      rw [List.set_set, List.set_set]
    · refine TL.go a3 q2 fun b H4 F4 S4 x4 a4 q4 => ?_
      cases b with
      | false => exact iteF ⟨F4, S4, acc, vs, x13.trans x4, a4.sr, RelDs.mono x4.same _ _ (RelDs.mono x3.same _ _ racc), q4⟩
      | true =>
        refine iteT (EL.go a4 q4 fun w H5 F5 S5 yd x5 a5 r5 ⟨hl, q5⟩ => ?_)
        have x15 := (x13.trans x4).trans x5
        obtain ⟨nF5, nS5, hH5⟩ := x15.laid_none a1.sr hD
        have racc5 := RelDs.mono x5.same _ _ (RelDs.mono x4.same _ _ (RelDs.mono x3.same _ _ racc))
        refine ⟨vs, hH5, by rw [racc5.length]; exact hl, ?_⟩
        exact ⟨F5, S5, acc ++ [yd], vs ++ [w], Ext.reset (K := K) x15, a5.sr.re nF5 nS5, racc5.append (.cons r5 .nil), q5⟩
  · refine .inl ⟨it.stop i H2 sm (by omega), ?_⟩
    rw [List.drop_eq_nil_of_le (by omega)] at q2
    have k1 := sr2.adoptS (F := F2) (o := .lst acc) (ho := .lst vs) nF ⟨_, rfl, racc⟩
    have k3 := x2.adoptS (o := .lst acc) (ho := .lst vs) hD
    rw [upd_id hH] at k1 k3
    exact p.of (x1.trans k3) k1 (.ref_i _) (q2 D nS)
theorem ds_setLcB (i : Nat) {y : Str} {py : Pos} {elt iter : Expr} {ifs : List Expr} {scope : Scope} {x : Str} {xp spos pos : Pos} {v : Nat} {ti : TDI} {tt : TDT} {te : TD} (hc : X.calm = true) (hN : X.N.Nodup) (hy : X.N[i]? = some y) (hyl : X.env.scope.names.lookup y = some .local)
    (hsw : swapsWith (.ListComp elt [⟨.Name x xp, iter, ifs, 0⟩] scope pos) (some (.Name y py)) spos.line X.env = pure true) (hi : DI X F0 (.Name x xp) iter ti) (ok : BlkOk X.N X.env.scope scope [(x, v)])
    (hg : ∀ (s : Shared) (H : Hp) (C : Addr) (cl : List (Str × Addr)) (fp : List Addr), PG (X.blk s H scope (compEnvC scope cl C X.env) fp) (.Name x xp) (gName v))
    (ht : ∀ (s : Shared) (H : Hp) (C : Addr) (cl : List (Str × Addr)) (fp : List Addr), DTs (X.blk s H scope (compEnvC scope cl C X.env) fp) F0 ifs tt)
    (he : ∀ (s : Shared) (H : Hp) (C : Addr) (cl : List (Str × Addr)) (fp : List Addr), DE (X.blk s H scope (compEnvC scope cl C X.env) fp) F0 elt te) (hs : ∀ x, foldedSetIterable iter X.env x = pure x := by intro _; rfl) :
    DS X F0 (.Assign [.Name y py] (.ListComp elt [⟨.Name x xp, iter, ifs, 0⟩] scope pos) spos) (tdAsg (tdLcB ti v tt te) (gdName i)) :=
  PS.weak (ps_setLc (own := [(x, v)]) (tt := TL X.K F0 tt) (te := EL X.K F0 te) hc hN hy hyl hsw hi ok hg ht he hs) fun D σ H ⟨F, S, ρ, D', a, h, p⟩ => by
    show tLc _ _ _ _ _ σ H _
    exact lcB_go (EL.go a h fun w H1 F1 S1 d x1 a1 r1 q1 => p.1 _ _ _ _ _ x1 a1.sr (a1.env.set r1 i) q1)
theorem de_lcB {elt iter : Expr} {ifs : List Expr} {scope : Scope} {x : Str} {xp pos : Pos} {v : Nat} {ti : TDI} {tt : TDT} {te : TD} (hc : X.calm = true) (hN : X.N.Nodup) (hi : DI X F0 (.Name x xp) iter ti) (ok : BlkOk X.N X.env.scope scope [(x, v)])
    (hg : ∀ (s : Shared) (H : Hp) (C : Addr) (cl : List (Str × Addr)) (fp : List Addr), PG (X.blk s H scope (compEnvC scope cl C X.env) fp) (.Name x xp) (gName v))
    (ht : ∀ (s : Shared) (H : Hp) (C : Addr) (cl : List (Str × Addr)) (fp : List Addr), DTs (X.blk s H scope (compEnvC scope cl C X.env) fp) F0 ifs tt)
    (he : ∀ (s : Shared) (H : Hp) (C : Addr) (cl : List (Str × Addr)) (fp : List Addr), DE (X.blk s H scope (compEnvC scope cl C X.env) fp) F0 elt te) (hs : ∀ x, foldedSetIterable iter X.env x = pure x := by intro _; rfl) :
    DE X F0 (.ListComp elt [⟨.Name x xp, iter, ifs, 0⟩] scope pos) (tdLcB ti v tt te) :=
  PE.weak (pe_lc (own := [(x, v)]) (tt := TL X.K F0 tt) (te := EL X.K F0 te) hc hN hi ok hg ht he hs) fun σ H Q h => lcB_go h
theorem ds_setLcT (i : Nat) {y : Str} {py : Pos} {elt iter : Expr} {ifs : List Expr} {scope : Scope} {tg : Expr} {own : List (Str × Nat)} {spos pos : Pos} {ti : TDI} {tt : TDT} {te : TD} (vs : List Nat) (hvs : own.map (·.2) = vs) (hc : X.calm = true) (hN : X.N.Nodup) (hy : X.N[i]? = some y) (hyl : X.env.scope.names.lookup y = some .local)
    (hsw : swapsWith (.ListComp elt [⟨tg, iter, ifs, 0⟩] scope pos) (some (.Name y py)) spos.line X.env = pure true) (hi : DI X F0 tg iter ti) (ok : BlkOk X.N X.env.scope scope own)
    (hg : ∀ (s : Shared) (H : Hp) (C : Addr) (cl : List (Str × Addr)) (fp : List Addr), PG (X.blk s H scope (compEnvC scope cl C X.env) fp) tg (gTup X.K vs.length (gNames vs)))
    (ht : ∀ (s : Shared) (H : Hp) (C : Addr) (cl : List (Str × Addr)) (fp : List Addr), DTs (X.blk s H scope (compEnvC scope cl C X.env) fp) F0 ifs tt)
    (he : ∀ (s : Shared) (H : Hp) (C : Addr) (cl : List (Str × Addr)) (fp : List Addr), DE (X.blk s H scope (compEnvC scope cl C X.env) fp) F0 elt te) (hs : ∀ x, foldedSetIterable iter X.env x = pure x := by intro _; rfl) :
    DS X F0 (.Assign [.Name y py] (.ListComp elt [⟨tg, iter, ifs, 0⟩] scope pos) spos) (tdAsg (tdLcT ti vs tt te) (gdName i)) := by
  subst hvs
  exact PS.weak (ps_setLc (own := own) (tt := TL X.K F0 tt) (te := EL X.K F0 te) hc hN hy hyl hsw hi ok hg ht he hs) fun D σ H ⟨F, S, ρ, D', a, h, p⟩ => by
    show tLc _ _ _ _ _ σ H _
    exact lcT_go (EL.go a h fun w H1 F1 S1 d x1 a1 r1 q1 => p.1 _ _ _ _ _ x1 a1.sr (a1.env.set r1 i) q1)
/-- comprehensions over pairs, each turn by itself -/
theorem lcT_ind {vs : List Nat} {te : TD} {ρ : Rho} {Q : List D → Store → Prop} (J : List D → List D → Store → Prop) (h0 : ∀ acc S, J [] acc S → Q acc S)
    (h : ∀ d ds acc S (W : D → Store → Prop), (∀ y S', J ds (acc ++ [y]) S' → W y S') → J (d :: ds) acc S → ∃ xs, d = .tup xs ∧ xs.length = vs.length ∧ te (setD (unsetD ρ vs) vs xs) S fun y S' => acc.length < sizeLine ∧ W y S') :
    ∀ (ds acc : List D) (S : Store), J ds acc S → lcT vs tdYes te ρ ds acc S Q
  | [], acc, S, j => h0 acc S j
  | d :: ds, acc, S, j => by
    unfold lcT
    obtain ⟨xs, e1, e2, q⟩ := h d ds acc S _ (fun y S' j' => lcT_ind J h0 h ds (acc ++ [y]) S' j') j
    refine ⟨xs, e1, e2, ?_⟩
    show if true = true then (te (setD (unsetD ρ vs) vs xs) S fun y S2 => acc.length < sizeLine ∧ lcT vs tdYes te ρ ds (acc ++ [y]) S2 Q) else (lcT vs tdYes te ρ ds acc S Q)
    exact iteT q
theorem lcT_m {α : Type} {vs : List Nat} {te : TD} {ρ : Rho} {Q : List D → Store → Prop} (f : α → D) (g : α → List D) (hl : ∀ x, (g x).length = vs.length) :
    ∀ (l : List α) (acc : List D) (S : Store), (∀ x ∈ l, ∀ Q' : D → Store → Prop, Q' (f x) S → te (setD (unsetD ρ vs) vs (g x)) S Q') → acc.length + l.length ≤ 100000 → Q (acc ++ l.map f) S → lcT vs tdYes te ρ (l.map fun x => .tup (g x)) acc S Q
  | [], acc, S, _, _, q => by
    rw [List.map_nil, List.append_nil] at q
    exact q
  | x :: l, acc, S, ht, hz, q => by
    rw [List.length_cons] at hz
    rw [List.map_cons]
    unfold lcT
    refine ⟨g x, rfl, hl x, ?_⟩
    show if true = true then (te (setD (unsetD ρ vs) vs (g x)) S fun y S2 => acc.length < sizeLine ∧ lcT vs tdYes te ρ (l.map fun x => .tup (g x)) (acc ++ [y]) S2 Q) else (lcT vs tdYes te ρ (l.map fun x => .tup (g x)) acc S Q)
    refine iteT (ht x List.mem_cons_self _ ⟨Nat.lt_of_lt_of_le (show acc.length < 100001 by omega) (sz5 (by omega)), ?_⟩)
    refine lcT_m f g hl l (acc ++ [f x]) S (fun k hk => ht k (List.mem_cons_of_mem _ hk)) (by rw [List.length_append]; show acc.length + 1 + l.length ≤ _; omega) ?_
    rw [List.append_assoc]
    exact q
end
end DL
namespace DL
open PySem PySem.Spec L2
section
variable {X : Cx}
def gCatB : DOp := fun S x y Q => match vw S x, vw S y with
  | .lst xs, .lst ys => xs.length + ys.length ≤ sizeLine ∧ ∀ p, S p = none → Q (.ref p) (sup S p (.lst (xs ++ ys)))
  | _, _ => False
theorem od_catB : OpR X (binaryOp .Add) (OL X.K gCatB) := by
  refine OpR.weak op_cat fun x y H Q ⟨F, S, dx, dy, Q', sr, rx, ry, g, p⟩ => ?_
  unfold gCatB at g
  split at g
  · rename_i a b e1 e2
    obtain ⟨p1, v1, rfl, h1, k1⟩ := vw_lst sr rx e1
    obtain ⟨p2, v2, rfl, h2, k2⟩ := vw_lst sr ry e2
    refine ⟨p1, p2, v1, v2, rfl, rfl, h1, h2, by rw [k1.length, k2.length]; exact g.1, fun q hq => ?_⟩
    exact p.of (sr.ext_box (o := .lst (a ++ b)) hq) (sr.box (o := .lst (a ++ b)) hq ⟨_, rfl, k1.append k2⟩) (.ref_i _) (g.2 q (sr.snone hq))
  · exact g.elim
end
theorem gEq_bb {f : Bool → Bool} {S : Store} {x y : Bool} {Q : D → Store → Prop} : gEq f S (.bl x) (.bl y) Q = Q (.bl (f (decide (x = y)))) S := by
  unfold gEq
  rfl
end DL
namespace DL
open PySem PySem.Spec L2
theorem lookup_relabel_free {env : Env} {p : (Str × NameKind) → Bool} : ∀ {names : List (Str × NameKind)} {x : Str}, names.lookup x = some .cell ∨ names.lookup x = some .free →
    (names.map fun y => if p y = true then (y.1, NameKind.cell) else y).lookup x = some .cell ∨ (names.map fun y => if p y = true then (y.1, NameKind.cell) else y).lookup x = some .free
  | [], x, h => by simp at h
  | (n, k) :: r, x, h => by
    rw [List.map_cons]
    have ih := @lookup_relabel_free env p r x
    by_cases hp : p (n, k) = true
    · rw [if_pos hp]
      show ((n, NameKind.cell) :: _).lookup x = _ ∨ ((n, NameKind.cell) :: _).lookup x = _
      rw [List.lookup_cons] at h ⊢
      by_cases e : (x == n) = true
      · rw [e]; exact .inl rfl
      · rw [Bool.eq_false_iff.mpr e] at h ⊢
        exact ih h
    · rw [if_neg hp]
      rw [List.lookup_cons] at h ⊢
      by_cases e : (x == n) = true
      · rw [e] at h ⊢; exact h
      · rw [Bool.eq_false_iff.mpr e] at h ⊢
        exact ih h
theorem blkOk_in {N : List Str} {sc scope : Scope} {own : List (Str × Nat)} {env : Env} (h : BlkOk N sc scope own) : BlkOk N (relabel sc env) scope own :=
  ⟨h.kind, h.uniq, h.ix, fun y hy e => lookup_relabel_free (env := env) (p := fun y => (y.2 == NameKind.free && env.scope.kind == .function && env.kindOf y.1 == some .cell)) (h.free y hy e), h.own⟩
end DL
namespace DL
open PySem PySem.Spec L2
section
variable {X : Cx} {F0 : Ent}
theorem sw_trueD {kx vx : Expr} {gs : List Comprehension} {scope : Scope} {pos py : Pos} {y : Str} {l : Nat} {env : Env} (hk : env.scope.kind = .function) (hy : env.scope.names.lookup y = some .local) (hl : (py.line == pos.line) = true)
    (ha : (scope.names.any fun (n, k) => n == y && (k == .local || k == .cell)) = false) : swapsWith (.DictComp kx vx gs scope pos) (some (.Name y py)) l env = pure true := by
  have ky : env.kindOf y = some .local := hy
  have hb : env.blockKind = .function := by unfold Env.blockKind; rw [hk]; rfl
  unfold swapsWith
  simp only [hb, ky, ha, Expr.pos, hl]
  rfl
theorem ps_setDc {i : Nat} {y : Str} {py : Pos} {kx vx tg iter : Expr} {ifs : List Expr} {scope : Scope} {own : List (Str × Nat)} {pos spos : Pos} {wi : TI} {g : TG} {tt : TT} {tk te : TE} (hc : X.calm = true) (hN : X.N.Nodup) (hy : X.N[i]? = some y) (hyl : X.env.scope.names.lookup y = some .local)
    (hsw : swapsWith (.DictComp kx vx [⟨tg, iter, ifs, 0⟩] scope pos) (some (.Name y py)) spos.line X.env = pure true) (hi : PI X tg iter wi) (ok : BlkOk X.N X.env.scope scope own)
    (hg : ∀ (s : Shared) (H : Hp) (C : Addr) (cl : List (Str × Addr)) (fp : List Addr), PG (X.blk s H scope (compEnvC scope cl C X.env) fp) tg g) (ht : ∀ (s : Shared) (H : Hp) (C : Addr) (cl : List (Str × Addr)) (fp : List Addr), PTs (X.blk s H scope (compEnvC scope cl C X.env) fp) ifs tt)
    (hk : ∀ (s : Shared) (H : Hp) (C : Addr) (cl : List (Str × Addr)) (fp : List Addr), PE (X.blk s H scope (compEnvC scope cl C X.env) fp) kx tk)
    (he : ∀ (s : Shared) (H : Hp) (C : Addr) (cl : List (Str × Addr)) (fp : List Addr), PE (X.blk s H scope (compEnvC scope cl C X.env) fp) vx te) (hs : ∀ x, foldedSetIterable iter X.env x = pure x := by intro _; rfl) :
    PS X (.Assign [.Name y py] (.DictComp kx vx [⟨tg, iter, ifs, 0⟩] scope pos) spos) (tAsg (tDc wi g tt tk te (own.map (·.2))) (gName i)) := by
  refine ⟨fun pins s σ H D I h => ?_⟩
  rw [exec_Assign_Name_used _ _ _ _ hsw]
  refine wpAny_bind (wpAny_standAt (wpAny_bind ?_))
  show wpAny _ X.A (do let _ ← comprehension (.DictComp kx vx [⟨tg, iter, ifs, 0⟩] scope pos) scope X.env (firstIterPos [⟨tg, iter, ifs, 0⟩] pos) newDict false (eval iter X.env) (some (assign (.Name y py) X.env))) _ _ s
  have h : tDc wi g tt tk te (own.map (·.2)) σ H (fun x H1 => gName i x σ H1 D.nx) := h
  refine wpAny_bind (thn (dc_core (Qf := fun _ s' => SP X pins D .next s') hc hN I hi ok hg ht hk he hs h fun L C s' m H' I' q hn f => ?_) fun _ s' hq => wpAny_pure (wpAny_pure hq))
  show wpAny _ _ (assign (.Name y py) X.env (.ref L)) _ _ _
  refine wpAny_assign_Name (store_ok2 (v := V.ref L) I' hN hy (.inl hyl) rfl (fun s2 I2 ⟨a, sb, ha⟩ => ?_) (.inr hyl))
  obtain ⟨f0, f1, f2, f3, f4, f5⟩ := f
  have haC : C ≠ a := by
    rcases ha with z | z
    · rw [z]; exact f1
    · exact fun e => f4 y a z e.symm
  refine ⟨m, hn.sameBut sb haC, fun h3 sb3 => ?_⟩
  exact ⟨_, H', I2.turned (t' := s2.toks) (fun b o hb e => (sb3.2 b hb).trans e) f0 f1 f3 f4 f5, q⟩
theorem ps_setDcN {i : Nat} {y : Str} {py : Pos} {kx vx tg iter : Expr} {ifs : List Expr} {scope : Scope} {own : List (Str × Nat)} {pos spos : Pos} {wi : TI} {g : TG} {tt : TT} {tk te : TE} (hu : X.A.units + 9 < cLine) (hc : X.calm = true) (hN : X.N.Nodup) (hy : X.N[i]? = some y) (hyl : X.env.scope.names.lookup y = some .local)
    (hsw : swapsWith (.DictComp kx vx [⟨tg, iter, ifs, 0⟩] scope pos) (some (.Name y py)) spos.line X.env = pure true) (hi : PI X tg iter wi) (ok : BlkOk X.N X.env.scope scope own)
    (hg : ∀ (s : Shared) (H : Hp) (C : Addr) (cl : List (Str × Addr)) (fp : List Addr), PG (X.blk s H scope (compEnvC scope cl C X.env) fp) tg g) (ht : ∀ (s : Shared) (H : Hp) (C : Addr) (cl : List (Str × Addr)) (fp : List Addr), PTs (X.blk s H scope (compEnvC scope cl C X.env) fp) ifs tt)
    (hk : ∀ (s : Shared) (H : Hp) (C : Addr) (cl : List (Str × Addr)) (fp : List Addr), PE (X.blk s H scope (compEnvC scope cl C X.env) fp) kx tk)
    (he : ∀ (s : Shared) (H : Hp) (C : Addr) (cl : List (Str × Addr)) (fp : List Addr), PE (X.blk s H scope (compEnvC scope cl C X.env) fp) vx te) (hs : ∀ x, foldedSetIterable iter X.env x = pure x := by intro _; rfl) :
    PS X (.Assign [.Name y py] (.DictComp kx vx [⟨tg, iter, ifs, 0⟩] scope pos) spos) (tAsg (tDcN X.K X.w wi g tt tk te (own.map (·.2))) (gName i)) := by
  refine ⟨fun pins s σ H D I h => ?_⟩
  rw [exec_Assign_Name_used _ _ _ _ hsw]
  refine wpAny_bind (wpAny_standAt (wpAny_bind ?_))
  show wpAny _ X.A (do let _ ← comprehension (.DictComp kx vx [⟨tg, iter, ifs, 0⟩] scope pos) scope X.env (firstIterPos [⟨tg, iter, ifs, 0⟩] pos) newDict false (eval iter X.env) (some (assign (.Name y py) X.env))) _ _ s
  have h : tDcN X.K X.w wi g tt tk te (own.map (·.2)) σ H (fun x H1 => gName i x σ H1 D.nx) := h
  refine wpAny_bind (thn (dcn_core (Qf := fun _ s' => SP X pins D .next s') hu hc hN I hi ok hg ht hk he hs h fun L C s' m H' I' q hn f => ?_) fun _ s' hq => wpAny_pure (wpAny_pure hq))
  show wpAny _ _ (assign (.Name y py) X.env (.ref L)) _ _ _
  refine wpAny_assign_Name (store_ok2 (v := V.ref L) I' hN hy (.inl hyl) rfl (fun s2 I2 ⟨a, sb, ha⟩ => ?_) (.inr hyl))
  obtain ⟨f0, f1, f2, f3, f4, f5⟩ := f
  have haC : C ≠ a := by
    rcases ha with z | z
    · rw [z]; exact f1
    · exact fun e => f4 y a z e.symm
  refine ⟨m, hn.sameBut sb haC, fun h3 sb3 => ?_⟩
  exact ⟨_, H', I2.turned (t' := s2.toks) (fun b o hb e => (sb3.2 b hb).trans e) f0 f1 f3 f4 f5, q⟩
theorem ds_setDc (i : Nat) {y : Str} {py : Pos} {kx vx iter : Expr} {ifs : List Expr} {scope : Scope} {x : Str} {xp spos pos : Pos} {v : Nat} {ti : TDI} {tt : TDT} {tk te : TD} (hc : X.calm = true) (hN : X.N.Nodup) (hy : X.N[i]? = some y) (hyl : X.env.scope.names.lookup y = some .local)
    (hsw : swapsWith (.DictComp kx vx [⟨.Name x xp, iter, ifs, 0⟩] scope pos) (some (.Name y py)) spos.line X.env = pure true) (hi : DI X F0 (.Name x xp) iter ti) (ok : BlkOk X.N X.env.scope scope [(x, v)])
    (hg : ∀ (s : Shared) (H : Hp) (C : Addr) (cl : List (Str × Addr)) (fp : List Addr), PG (X.blk s H scope (compEnvC scope cl C X.env) fp) (.Name x xp) (gName v))
    (ht : ∀ (s : Shared) (H : Hp) (C : Addr) (cl : List (Str × Addr)) (fp : List Addr), DTs (X.blk s H scope (compEnvC scope cl C X.env) fp) F0 ifs tt)
    (hk : ∀ (s : Shared) (H : Hp) (C : Addr) (cl : List (Str × Addr)) (fp : List Addr), DE (X.blk s H scope (compEnvC scope cl C X.env) fp) F0 kx tk)
    (he : ∀ (s : Shared) (H : Hp) (C : Addr) (cl : List (Str × Addr)) (fp : List Addr), DE (X.blk s H scope (compEnvC scope cl C X.env) fp) F0 vx te) (hs : ∀ x, foldedSetIterable iter X.env x = pure x := by intro _; rfl) :
    DS X F0 (.Assign [.Name y py] (.DictComp kx vx [⟨.Name x xp, iter, ifs, 0⟩] scope pos) spos) (tdAsg (tdDc ti v tt tk te) (gdName i)) :=
  PS.weak (ps_setDc (own := [(x, v)]) (tt := TL X.K F0 tt) (tk := EL X.K F0 tk) (te := EL X.K F0 te) hc hN hy hyl hsw hi ok hg ht hk he hs) fun D σ H ⟨F, S, ρ, D', a, h, p⟩ => by
    show tDc _ _ _ _ _ _ σ H _
    exact dc_go (EL.go a h fun w H1 F1 S1 d x1 a1 r1 q1 => p.1 _ _ _ _ _ x1 a1.sr (a1.env.set r1 i) q1)
theorem ds_setDcN (i : Nat) {w : World} {y : Str} {py : Pos} {kx vx iter : Expr} {ifs : List Expr} {scope : Scope} {x : Str} {xp spos pos : Pos} {v : Nat} {ti : TDI} {tt : TDT} {tk te : TD} (hw : X.w = w) (hu : X.A.units + 65 < cLine) (hc : X.calm = true) (hN : X.N.Nodup) (hy : X.N[i]? = some y) (hyl : X.env.scope.names.lookup y = some .local)
    (hsw : swapsWith (.DictComp kx vx [⟨.Name x xp, iter, ifs, 0⟩] scope pos) (some (.Name y py)) spos.line X.env = pure true) (hi : DI X F0 (.Name x xp) iter ti) (ok : BlkOk X.N X.env.scope scope [(x, v)])
    (hg : ∀ (s : Shared) (H : Hp) (C : Addr) (cl : List (Str × Addr)) (fp : List Addr), PG (X.blk s H scope (compEnvC scope cl C X.env) fp) (.Name x xp) (gName v))
    (ht : ∀ (s : Shared) (H : Hp) (C : Addr) (cl : List (Str × Addr)) (fp : List Addr), DTs (X.blk s H scope (compEnvC scope cl C X.env) fp) F0 ifs tt)
    (hk : ∀ (s : Shared) (H : Hp) (C : Addr) (cl : List (Str × Addr)) (fp : List Addr), DE (X.blk s H scope (compEnvC scope cl C X.env) fp) F0 kx tk)
    (he : ∀ (s : Shared) (H : Hp) (C : Addr) (cl : List (Str × Addr)) (fp : List Addr), DE (X.blk s H scope (compEnvC scope cl C X.env) fp) F0 vx te) (hs : ∀ x, foldedSetIterable iter X.env x = pure x := by intro _; rfl) :
    DS X F0 (.Assign [.Name y py] (.DictComp kx vx [⟨.Name x xp, iter, ifs, 0⟩] scope pos) spos) (tdAsg (tdDcN w ti v tt tk te) (gdName i)) := by
  subst hw
  exact PS.weak (ps_setDcN (own := [(x, v)]) (tt := TL X.K F0 tt) (tk := EL X.K F0 tk) (te := EL X.K F0 te) (by omega) hc hN hy hyl hsw hi ok hg ht hk he hs) fun D σ H ⟨F, S, ρ, D', a, h, p⟩ => by
    show tDcN _ _ _ _ _ _ _ _ σ H _
    exact dn_go (EL.go a h fun w H1 F1 S1 d x1 a1 r1 q1 => p.1 _ _ _ _ _ x1 a1.sr (a1.env.set r1 i) q1)
end
end DL
namespace DL
open PySem PySem.Spec L2
section
variable {X : Cx} {F0 : Ent} {k : Nat} {E' : XD}
theorem BC.nox (B : BC X F0 k E') : BC X.nox F0 k noX := BC.none B.room B.calm
theorem ds_try0 {body : List Stmt} {h : ExceptHandler} {hs : List ExceptHandler} {pos : Pos} {t : TDS} (hb : DSs X.nox F0 body t) : DS X F0 (.Try body (h :: hs) [] [] pos) t := ps_try_thru0 hb
end
end DL
namespace DLZ
open PySem
open PySem.Sem (wp)
section
variable {prog : Program} {w : World} {A : Around} {E : Value → Shared → Prop} {s : Shared} {e it l : Addr} {i : Nat} {xs : Array Value} {x old : Value} {St : Heap → Nat → Prop}
theorem en_item {Q : Value → Shared → Prop} (N : Nx prog w it l xs St) (he : IsEnum s.heap e it i old) (st : St s.heap i) (hx : xs[i]? = some x) (n1 : e ≠ it) (n2 : e ≠ l)
    (hQ : ∀ g, IsEnumOut g e it ((i : Int) + 1) x s.heap.objs.size → St g (i + 1) → g.get? s.heap.objs.size = some { cls := .type "tuple", data := .seq #[.int i s.toks, x] } →
      (∀ b o, b ≠ e → b ≠ it → s.heap.get? b = some o → g.get? b = some o) → Q (.ref s.heap.objs.size) { s with heap := g, toks := s.toks + 1 }) :
    wpAny (model prog w) A (Builtin.«enumerate.__next__» ⟨[.ref e], []⟩) (fun fin s' => ∃ v, fin = .done (.ret v) ∧ Q v s') E s := by
  obtain ⟨g0, gl, dd, tk, os⟩ := s
  show wpAny _ _ (field (.ref e) 2 >>= _) _ _ _
  refine wpAny_bind (wpAny_field he rfl (x := .ref it) rfl ?_)
  refine wpAny_bind (N.item _ _ _ _ _ _ st hx fun g1 st1 sb1 => ?_)
  replace sb1 : Heap.SameBut it g0 g1 := sb1
  have he1 : IsEnum g1 e it i old := (sb1.2 e n1).trans he
  have zl : e < g0.objs.size := Heap.lt_size he
  show wpAny _ _ (field (.ref e) 3 >>= _) _ _ ⟨g1, gl, dd, tk, os⟩
  refine wpAny_bind (wpAny_field he1 rfl (x := rawInt i) rfl ?_)
  show wpAny _ _ (field (.ref e) 4 >>= _) _ _ ⟨g1, gl, dd, tk, os⟩
  refine wpAny_bind (wpAny_field he1 rfl (x := .none) rfl ?_)
  show wpAny _ _ (mkInt i >>= _) _ _ ⟨g1, gl, dd, tk, os⟩
  refine wpAny_bind (wpAny_mkInt ?_)
  show wpAny _ _ (setField (.ref e) 3 (rawInt ((i : Int) + 1)) >>= _) _ _ ⟨g1, gl, dd, tk + 1, os⟩
  refine wpAny_bind (wpAny_setField_rec he1 (by simp) fun g2 he2 sb2 => ?_)
  replace sb2 : Heap.SameBut e g1 g2 := sb2
  replace he2 : IsEnum g2 e it ((i : Int) + 1) old := he2
  show wpAny _ _ (setField (.ref e) 4 .none >>= _) _ _ ⟨g2, gl, dd, tk + 1, os⟩
  refine wpAny_bind (wpAny_setField_rec he2 (by simp) fun g3 he3 sb3 => ?_)
  replace sb3 : Heap.SameBut e g2 g3 := sb3
  replace he3 : IsEnum g3 e it ((i : Int) + 1) old := he3
  show wpAny _ _ (newTuple [.int i tk, x] >>= _) _ _ ⟨g3, gl, dd, tk + 1, os⟩
  refine wpAny_bind (wpAny_newTuple ?_)
  have sz3 : g3.objs.size = g0.objs.size := by rw [sb3.1, sb2.1, sb1.1]
  have st3 : St g3 (i + 1) := N.ext (N.ext st1 sb2.extBut (Ne.symm n1) (Ne.symm n2)) sb3.extBut (Ne.symm n1) (Ne.symm n2)
  have ht4 : (g3.push { cls := .type "tuple", data := .seq #[.int i tk, x] }).get? g0.objs.size = some { cls := .type "tuple", data := .seq #[.int i tk, x] } := by rw [← sz3]; exact Heap.get?_push_size _ rfl
  have he4 : IsEnum (g3.push { cls := .type "tuple", data := .seq #[.int i tk, x] }) e it ((i : Int) + 1) old := Heap.get?_push_of_some _ he3
  have st4 : St (g3.push { cls := .type "tuple", data := .seq #[.int i tk, x] }) (i + 1) := N.keep _ _ _ st3 (fun o q => Heap.get?_push_of_some _ q) fun o q => Heap.get?_push_of_some _ q
  have hk4 : ∀ b o, b ≠ e → b ≠ it → g0.get? b = some o → (g3.push { cls := .type "tuple", data := .seq #[.int i tk, x] }).get? b = some o := fun b o b1 b2 q =>
    Heap.get?_push_of_some _ (sb3.extBut b o b1 (sb2.extBut b o b1 (sb1.extBut b o b2 q)))
  generalize g3.push { cls := .type "tuple", data := .seq #[.int i tk, x] } = g4 at *
  show wpAny _ _ (Builtin.SmallTypes.ownedTupleIsFree (.ref e) >>= _) _ _ ⟨g4, gl, dd, tk + 1, os⟩
  rw [sz3]
  clear he3 sb3 he2 sb2 he1 sb1 st1 st3 sz3 g3 g2 g1
  refine wpAny_bind ?_
  unfold Builtin.SmallTypes.ownedTupleIsFree
  refine wpAny_bind (wpAny_field he4 rfl (x := .none) rfl (wpAny_pure ?_))
  simp only [if_true]
  refine wpAny_bind (wpAny_rule ?_)
  refine wpAny_bind (wpAny_field he4 rfl (x := old) rfl ?_)
  refine wpAny_bind (wpAny_setField_rec he4 (by simp) fun g5 he5 sb5 => ?_)
  replace sb5 : Heap.SameBut e g4 g5 := sb5
  replace he5 : IsEnum g5 e it ((i : Int) + 1) x := he5
  show wpAny _ _ (Builtin.SmallTypes.ownedTupleHandOut (.ref e) (.ref g0.objs.size) >>= _) _ _ ⟨g5, gl, dd, tk + 1, os⟩
  refine wpAny_bind ?_
  unfold Builtin.SmallTypes.ownedTupleHandOut
  refine wpAny_bind (wpAny_setField_rec he5 (by simp) fun g6 he6 sb6 => ?_)
  replace sb6 : Heap.SameBut e g5 g6 := sb6
  replace he6 : IsEnumOut g6 e it ((i : Int) + 1) x g0.objs.size := he6
  refine wpAny_setField_rec he6 (by simp) fun g7 he7 sb7 => ?_
  replace sb7 : Heap.SameBut e g6 g7 := sb7
  replace he7 : IsEnumOut g7 e it ((i : Int) + 1) x g0.objs.size := he7
  refine wpAny_bind (wpAny_letGo (wpAny_pure ⟨_, rfl, hQ g7 he7 ?_ ?_ ?_⟩))
  · exact N.ext (N.ext (N.ext st4 sb5.extBut (Ne.symm n1) (Ne.symm n2)) sb6.extBut (Ne.symm n1) (Ne.symm n2)) sb7.extBut (Ne.symm n1) (Ne.symm n2)
  · exact sb7.extBut _ _ (Nat.ne_of_gt zl) (sb6.extBut _ _ (Nat.ne_of_gt zl) (sb5.extBut _ _ (Nat.ne_of_gt zl) ht4))
  · exact fun b o b1 b2 q => sb7.extBut b o b1 (sb6.extBut b o b1 (sb5.extBut b o b1 (hk4 b o b1 b2 q)))
theorem en_py_item {Q : Option Value → Shared → Prop} (N : Nx prog w it l xs St) (he : IsEnum s.heap e it i old) (st : St s.heap i) (hx : xs[i]? = some x) (n1 : e ≠ it) (n2 : e ≠ l)
    (hQ : ∀ g, IsEnumOut g e it ((i : Int) + 1) x s.heap.objs.size → St g (i + 1) → g.get? s.heap.objs.size = some { cls := .type "tuple", data := .seq #[.int i s.toks, x] } →
      (∀ b o, b ≠ e → b ≠ it → s.heap.get? b = some o → g.get? b = some o) → Q (some (.ref s.heap.objs.size)) { s with heap := g, toks := s.toks + 1 }) :
    wpAny (model prog w) A (pyNext (.ref e)) Q E s := by
  have tt : s.TypeIs (.ref e) "enumerate" := ⟨_, he, rfl⟩
  unfold pyNext
  exact wpAny_bind (wpAny_attempt (wpAny_callSpecial?_slot (name := Str.ofString "__next__") tt F.slot_enumerate_next
    (wpAny_call_entry F.slot_enumerate_next tt F.entry_enumerate_next (en_item N he st hx n1 n2 fun g q1 q2 q3 q4 => wpAny_pure (hQ g q1 q2 q3 q4)) (F.args_enumerate_next_1 _))))
theorem en_py_end {Q : Option Value → Shared → Prop} (N : Nx prog w it l xs St) (hh : A.handled = none) (he : IsEnum s.heap e it i old) (st : St s.heap i) (hx : xs[i]? = none)
    (hQ : ∀ g, Heap.ExtBut it s.heap g → Q none { s with heap := g }) : wpAny (model prog w) A (pyNext (.ref e)) Q E s := by
  have tt : s.TypeIs (.ref e) "enumerate" := ⟨_, he, rfl⟩
  unfold pyNext
  refine wpAny_bind (wpAny_attempt (wpAny_callSpecial?_slot (name := Str.ofString "__next__") tt F.slot_enumerate_next
    (wpAny_call_entry F.slot_enumerate_next tt F.entry_enumerate_next ?_ (F.args_enumerate_next_1 _))))
  show wpAny _ _ (field (.ref e) 2 >>= _) _ _ _
  refine wpAny_bind (wpAny_field he rfl (x := .ref it) rfl ?_)
  refine wpAny_bind (N.fin _ _ _ _ _ hh st hx fun g z k1 k2 => ?_)
  obtain ⟨o, k3, k4⟩ := k2
  refine wpAny_bind (wpAny_isInstance (T := "StopIteration") (b := true) ⟨o, k3, k4⟩ isSubtype_stop ?_)
  exact wpAny_pure (hQ _ k1)
end
end DLZ
namespace DLZ
open PySem
open PySem.Sem (wp)
open PySem.AutoSeq1 (wpAny_loadPart')
theorem meets_en_tup (l : Addr) (xs : Array Value) (n : Nat) (dc : Option Addr) (so : Array (Option Value)) :
    Meets (Builtin.«enumerate.__new__» ⟨[.type "enumerate", .ref l], []⟩) (fun _ R s => s.heap.get? l = some { cls := .type "tuple", dict := dc, data := .seq xs n, slots := so } ∧
      R (.ok (.ret (.ref (s.heap.push { cls := .type "tuple_iterator", data := .fields #[.ref l, .int 0 0] }).objs.size)))
        { s with heap := (s.heap.push { cls := .type "tuple_iterator", data := .fields #[.ref l, .int 0 0] }).push { cls := .type "enumerate", data := .fields #[.none, .bool false, .ref s.heap.objs.size, rawInt 0, .none, .none] } }) :=
  .of_wp fun prog w A R s k => by
    obtain ⟨g0, gl, dd, tk, os⟩ := s
    obtain ⟨kl, k⟩ := k
    have su := sub_enumerate
    have kT : Heap.IsTuple (Shared.heap ⟨g0, gl, dd, tk, os⟩) l xs := ⟨_, kl, rfl, n, rfl⟩
    wp_walk using wpAny_loadPart' kl
    refine wpAny_stack_any fun _ => wpAny_pure ?_
    split
    · rename_i cc _ _ _ _ _
      cases (cc == Value.type "enumerate")
      · wp_walk using wpAny_loadPart' kl, wpAny_pyIter_tuple kT
        exact ⟨_, rfl, k⟩
      · wp_walk using wpAny_loadPart' kl, wpAny_pyIter_tuple kT
        exact ⟨_, rfl, k⟩
    · wp_walk using wpAny_loadPart' kl, wpAny_pyIter_tuple kT
      exact ⟨_, rfl, k⟩
section
variable {prog : Program} {w : World} {A : Around} {E : Value → Shared → Prop} {s : Shared}
theorem call_en_tup {l : Addr} {xs : Array Value} {Q : Value → Shared → Prop} (hT : s.heap.IsTuple l xs)
    (q : ∀ g, IsEnum g (s.heap.objs.size + 1) s.heap.objs.size 0 .none → g.IsTupleIter s.heap.objs.size l 0 → (∀ b o, s.heap.get? b = some o → g.get? b = some o) → Q (.ref (s.heap.objs.size + 1)) { s with heap := g }) :
    wpAny (model prog w) A (call (.type "enumerate") [.ref l]) Q E s := by
  obtain ⟨⟨c, dc, dt, so⟩, hl, hc, n, hd⟩ := hT
  replace hc : c = .type "tuple" := hc
  replace hd : dt = .seq xs n := hd
  subst hc hd
  refine callType_new F.called_enumerate (by decide) (F.typeCall_enumerate_1 _) (F.newCall_enumerate_1 _) (fun obj => F.args_object_init_2 obj _) F.entry_enumerate_new (meets_en_tup l xs n dc so) ⟨hl, ?_⟩
  have z1 : (s.heap.push { cls := .type "tuple_iterator", data := .fields #[.ref l, .int 0 0] }).objs.size = s.heap.objs.size + 1 := Heap.size_push ..
  show _ ∧ _
  rw [z1]
  have ke : IsEnum ((s.heap.push { cls := .type "tuple_iterator", data := .fields #[.ref l, .int 0 0] }).push { cls := .type "enumerate", data := .fields #[.none, .bool false, .ref s.heap.objs.size, rawInt 0, .none, .none] }) (s.heap.objs.size + 1) s.heap.objs.size 0 .none := by
    have z2 := Heap.get?_push_size (s.heap.push { cls := .type "tuple_iterator", data := .fields #[.ref l, .int 0 0] }) (o := { cls := .type "enumerate", data := .fields #[.none, .bool false, .ref s.heap.objs.size, rawInt 0, .none, .none] }) rfl
    rw [z1] at z2
    exact z2
  exact ⟨⟨_, ke, rfl⟩, q _ ke ⟨_, Heap.get?_push_of_some _ (Heap.get?_push_size _ rfl), rfl, rfl⟩ fun b o x => Heap.get?_push_of_some _ (Heap.get?_push_of_some _ x)⟩
end
end DLZ
namespace DL
open PySem PySem.Spec PyProof.Rows L2
/-- the turns of enumerate over the tuple at a -/
def ItE (K : PySem.W.Frag) (a : Addr) : It :=
  ⟨fun i H => ∃ (xs : List V) (x : V), SqT K H a xs ∧ xs[i]? = some x, fun i H v H' => ∃ T x, v = .ref T ∧ H T = none ∧ H' = upd H T (.tup [.int (i : Nat), x]) ∧ ∀ xs, SqT K H a xs → xs[i]? = some x, fun i H => ∃ xs : List V, SqT K H a xs ∧ xs.length ≤ i⟩
theorem turn_enT {P : Program} {w : World} {K : PySem.W.Frag} {elts : List Expr} {kk : Nat} {tpos : Pos} (a e it : Addr) :
    Turn P w K (.Tuple elts kk tpos) (ItE K a) [e, it] e (fun i h => (∃ old, IsEnum h e it ((i : Nat) : Int) old) ∧ h.IsTupleIter it a i ∧ e ≠ it ∧ e ≠ a ∧ a ≠ it) where
  mem := by simp
  obj := fun i h st b hb => by
    obtain ⟨⟨old, k1⟩, ⟨o, k2, k3, k4⟩, _⟩ := st
    rcases (show b = e ∨ b = it by simpa using hb) with rfl | rfl
    · exact ⟨_, k1, fun v q => nomatch q⟩
    · exact ⟨o, k2, fun v q => by rw [k4] at q; cases q⟩
  keep := fun i h h' st k => let ⟨⟨old, k1⟩, k2, k3⟩ := st; ⟨⟨old, k e (by simp) _ k1⟩, k2.at fun o q => k it (by simp) o q, k3⟩
  item := by
    intro X hP hw hK hc i pins s σ H E I hf st hg
    subst hP hw hK
    obtain ⟨⟨old, k1⟩, k2, n1, n2, n3⟩ := st
    obtain ⟨xs, x, hq, hx⟩ := hg
    obtain ⟨its, rv, hT, _⟩ := I.tuple hq
    obtain ⟨u, hu, ru⟩ := rv.get hx
    have l1 : e < s.heap.objs.size := Heap.lt_size k1
    have l2 : it < s.heap.objs.size := by obtain ⟨_, q, _⟩ := k2; exact Heap.lt_size q
    have hT2 : s.heap.IsTuple a its.toArray := by obtain ⟨o, b1, b2, b3, b4⟩ := hT; exact ⟨o, b1, b2, b3, b4⟩
    refine DLZ.en_py_item (DLZ.nx_tuple it a n3 its.toArray) k1 ⟨k2, hT2⟩ (x := u) (by simpa using hu) n1 n2 fun g ho st2 hN hk => ?_
    refine ⟨_, rfl, wpAny_letOwnedTupleGo_enum (s := { s with heap := g, toks := s.toks + 1 }) ho fun g2 k5 sb => ?_⟩
    have hN2 : g2.get? s.heap.objs.size = some { cls := .type "tuple", data := .seq #[.int i s.toks, u] } := (sb.2 _ (Nat.ne_of_gt l1)).trans hN
    have okN : ObjOk X.prog X.w (upd H s.heap.objs.size (.tup [.int (i : Nat), x])) g2 s.heap.objs.size (.tup [.int (i : Nat), x]) :=
      ⟨by show 2 ≤ sizeLine; decide, [.int i s.toks, u], .cons ⟨_, rfl⟩ (.cons ru .nil), ⟨_, hN2, rfl, _, rfl⟩⟩
    have I1 : Inv X pins σ (upd H s.heap.objs.size (.tup [.int (i : Nat), x])) { s with heap := g2, toks := s.toks + 1 } :=
      I.turnedNew (ch := [e, it]) (fun b ob hb q => (sb.2 b (fun z => hb (by simp [z]))).trans (hk b ob (fun z => hb (by simp [z])) (fun z => hb (by simp [z])) q)) hf (Nat.le_refl _) okN
    refine ⟨.ref s.heap.objs.size, _, I1, rfl, ⟨_, x, rfl, I.hok.fresh (Nat.le_refl _), rfl, fun ys hy => by rw [I.tuple_inj hy hq]; exact hx⟩, ⟨⟨u, ?_⟩, st2.1.at fun o q => (sb.2 it (Ne.symm n1)).trans q, n1, n2, n3⟩, fun b hb => ?_⟩
    · rw [show ((i + 1 : Nat) : Int) = (i : Int) + 1 by omega]
      exact k5
    · have hb' : b < s.heap.objs.size := by
        rcases (show b = e ∨ b = it by simpa using hb) with rfl | rfl
        · exact l1
        · exact l2
      rw [upd_ne (Nat.ne_of_lt hb')]
      exact (hf b hb).1
  done := by
    intro X hP hw hK hc i pins s σ H E I hf st hg
    subst hP hw hK
    obtain ⟨⟨old, k1⟩, k2, n1, n2, n3⟩ := st
    obtain ⟨xs, hq, hx⟩ := hg
    obtain ⟨its, rv, hT, _⟩ := I.tuple hq
    obtain ⟨f0, f1, f2, f3, f4, f5⟩ := hf it (by simp)
    have hT2 : s.heap.IsTuple a its.toArray := by obtain ⟨o, b1, b2, b3, b4⟩ := hT; exact ⟨o, b1, b2, b3, b4⟩
    have hl := rv.length
    exact DLZ.en_py_end (DLZ.nx_tuple it a n3 its.toArray) (I.ok.hd hc) k1 ⟨k2, hT2⟩ (by simp; omega) fun g eb => ⟨rfl, I.turned (t' := s.toks) (fun b o hb q => eb b o hb q) f0 f1 f3 f4 f5⟩
  self := fun A i s Q E st h => let ⟨⟨_, k1⟩, _⟩ := st; wpAny_pyIter_enum k1 h
def iEnT (K : PySem.W.Frag) (ta : TA) : TI := fun σ H R => ta σ H fun vs H1 => ∃ a xs, vs = [.ref a] ∧ SqT K H1 a xs ∧ R (ItE K a) H1
theorem pi_enT {X : Cx} {e : Expr} {ta : TA} {p pos tpos : Pos} {elts : List Expr} {kk : Nat} (hg : Gl X "enumerate") (hm : X.mg "enumerate" = none) (ha : PA X [e] ta) (hs : starEach [e] X.env = [(false, eval e X.env)] := by rfl) :
    PI X (.Tuple elts kk tpos) (.Call (.Name "enumerate" p) [e] [] pos) (iEnT X.K ta) := by
  refine ⟨fun pins s σ H R I h => ?_⟩
  refine Call_ (ld_blt I hg hm boot_enumerate (PyProof.Rows.callWith_type1 (thn (ha.run pos pins s σ H _ I h) fun us s1 ⟨vs, H1, I1, r1, a, xs, ev, hq, q⟩ => ?_) hs rfl))
  subst ev
  cases r1 with
  | cons r rr =>
    cases rr
    cases r
    obtain ⟨its, rv, hT, hz⟩ := I1.tuple hq
    have hT2 : s1.heap.IsTuple a its.toArray := by obtain ⟨o, b1, b2, b3, b4⟩ := hT; exact ⟨o, b1, b2, b3, b4⟩
    have al : a < s1.heap.objs.size := by obtain ⟨o, b1, _⟩ := hT2; exact Heap.lt_size b1
    refine DLZ.call_en_tup hT2 fun g he hit hk => wpAny_pyIter_enum he ?_
    have I2 : Inv X pins σ H1 { s1 with heap := g } := I1.kept (t' := s1.toks) hk
    refine ⟨s1.heap.objs.size + 1, [s1.heap.objs.size + 1, s1.heap.objs.size], _, _, H1, rfl, I2, turn_enT a (s1.heap.objs.size + 1) s1.heap.objs.size, ⟨⟨.none, he⟩, hit, Nat.succ_ne_self _, Nat.ne_of_gt (Nat.lt_succ_of_lt al), Nat.ne_of_lt al⟩, fun b hb => ?_, q⟩
    have hle : s1.heap.objs.size ≤ b := by
      rcases (show b = s1.heap.objs.size + 1 ∨ b = s1.heap.objs.size by simpa using hb) with z | z
      · rw [z]; exact Nat.le_succ _
      · rw [z]; exact Nat.le_refl _
    exact I1.fpOk hle (I1.hok.fresh hle)
end DL
namespace DLS
open PySem PySem.Spec L2
def txOf (e : Int × Value) : Str := match e.2 with
  | .str x _ => x
  | _ => Str.empty
section
variable {P : Program} {w : World}
def GoodT (P : Program) (w : World) (e : Int × Value) : Prop := ∃ x tk, e.2 = Value.str x tk ∧ e.1 = (strKind P w).hash x
/-- the set of texts at a, its members as they lie -/
structure TxR (P : Program) (w : World) (h : Heap) (a : Addr) (xs : List Str) : Prop where
  ex : ∃ o es ep t, h.get? a = some o ∧ o.ExactSet ∧ o.data = .set es ep t ∧ (∀ e ∈ es.toList, GoodT P w e) ∧ es.toList.map txOf = xs ∧ es.size < scanBound ∧ t.fits es.size = true ∧ Ris t.place.toList ∧ (w.params.followText "set-order" = true ∨ t.led = true)
  nd : xs.Nodup
theorem TxR.at {h h' : Heap} {a : Addr} {xs : List Str} (R : TxR P w h a xs) (k : ∀ o, h.get? a = some o → h'.get? a = some o) : TxR P w h' a xs := by
  obtain ⟨⟨o, es, ep, t, ho, r⟩, n⟩ := R
  exact ⟨⟨o, es, ep, t, k o ho, r⟩, n⟩
theorem elems_t {l : List (Int × Value)} (g : ∀ e ∈ l, GoodT P w e) : ElemsOf (strKind P w) l := fun e he => by
  obtain ⟨x, tk, k1, k2⟩ := g e he
  exact ⟨⟨x, by rw [k1]; exact strKind_is P w x tk, k2⟩, by rw [k1] <;> rfl⟩
theorem is_t {e : Int × Value} (g : GoodT P w e) (x : Str) : (strKind P w).is x e.2 = true ↔ txOf e = x := by
  obtain ⟨y, tk, k1, _⟩ := g
  unfold txOf
  rw [k1]
  show ((y == x) = true) ↔ y = x
  exact beq_iff_eq
theorem mem_t {l : List (Int × Value)} (g : ∀ e ∈ l, GoodT P w e) (x : Str) : x ∈ l.map txOf ↔ ∃ e ∈ l, (strKind P w).is x e.2 = true := by
  rw [List.mem_map]
  exact ⟨fun ⟨e, he, q⟩ => ⟨e, he, (is_t (g e he) x).2 q⟩, fun ⟨e, he, q⟩ => ⟨e, he, (is_t (g e he) x).1 q⟩⟩
end
section
variable {P : Program} {w : World} {A : Around} {E : Value → Shared → Prop} {s : Shared} {a : Addr} {xs : List Str}
theorem tail_t {g : Bool → Sem Unit} (hg : ∀ (b : Bool) (s₁ : Shared) (Q' : Unit → Shared → Prop), Q' () s₁ → wpAny (model P w) A (g b) Q' E s₁) {o : Obj} {es es1 : Array (Int × Value)} {ep : Nat} {t t2 : SetTable} (ho : s.heap.get? a = some o) (hex : o.ExactSet) (hd : o.data = .set es ep t)
    (g1 : ∀ e ∈ es1.toList, GoodT P w e) (n1 : (es1.toList.map txOf).Nodup) (b1 : es1.size < scanBound) (f2 : t2.fits es1.size = true) (r2 : Ris t2.place.toList) (l2 : w.params.followText "set-order" = true ∨ t2.led = true) {was : Bool} {R : Option Bool → Shared → Prop}
    (hR : ∀ h' ys, Heap.SameBut a s.heap h' → TxR P w h' a ys → ys.Perm (es1.toList.map txOf) → R (some true) { s with heap := h' }) :
    wpAny (model P w) A (do
        storeSet a es1 t2
        if (!was && t2.tooFull) = true then do
            g (relayAll t2 es1 (SetTable.grown es1.size)).2.2
            storeSet a (relayAll t2 es1 (SetTable.grown es1.size)).1 (relayAll t2 es1 (SetTable.grown es1.size)).2.1
            pure (some true)
          else pure (some true)) R E s := by
  refine wpAny_bind (wpAny_storeSet_of ho hd ?_ (fits_of_scanBound b1))
  have k1 := store_at (es' := es1) (t' := t2) ho hd
  have v1 := Heap.SameBut.update s.heap a (Obj.putSet es1 t2)
  split
  · have pm := relayAll_perm t2 es1 (SetTable.grown es1.size)
    have f3 := relayAll_fits t2 es1 (SetTable.grown es1.size)
    have r3 := relayAll_ris t2 es1 (SetTable.grown es1.size)
    have l3 := relayAll_led t2 es1 (SetTable.grown es1.size)
    generalize relayAll t2 es1 (SetTable.grown es1.size) = Z at pm f3 r3 l3 ⊢
    obtain ⟨es2, t3, gv⟩ := Z
    dsimp only at pm f3 r3 l3 ⊢
    have z2 : es2.size = es1.size := by rw [← Array.length_toList, pm.length_eq, Array.length_toList]
    have b2 : es2.size < scanBound := by rw [z2]; exact b1
    refine wpAny_bind (hg _ _ _ ?_)
    refine wpAny_bind (wpAny_storeSet_of k1 rfl ?_ (fits_of_scanBound b2))
    have k2 := store_at (es' := es2) (t' := t3) k1 rfl
    refine wpAny_pure (hR _ (es2.toList.map txOf) (v1.trans (Heap.SameBut.update _ a _)) ⟨⟨_, es2, _, t3, k2, hex, rfl, fun e he => g1 e (pm.mem_iff.mp he), rfl, b2, f3, r3, l2.imp id fun z => by rw [l3]; exact z⟩, (pm.map txOf).nodup_iff.mpr n1⟩ (pm.map txOf))
  · exact wpAny_pure (hR _ (es1.toList.map txOf) v1 ⟨⟨_, es1, _, t2, k1, hex, rfl, g1, rfl, b1, f2, r2, l2⟩, n1⟩ (List.Perm.refl _))
theorem add_t {x : Str} {tk : Tok} {Q : Bool → Shared → Prop} (R : TxR P w s.heap a xs) (room : xs.length + 1 < scanBound)
    (hQ : ∀ b h' ys, Heap.SameBut a s.heap h' → TxR P w h' a ys → (x ∈ xs → ys = xs) → (x ∉ xs → ys.Perm (x :: xs)) → Q b { s with heap := h' }) :
    wpAny (model P w) A (setAddHashed a (.str x tk) ((strKind P w).hash x)) Q E s := by
  obtain ⟨⟨o, es, ep, t, ho, hex, hd, g, hxs, hb, hf, hr, hl⟩, nd⟩ := R
  have hkey : (strKind P w).is x (.str x tk) = true := strKind_is P w x tk
  have hsc : (Value.str x tk).scannable = true := rfl
  have hel : ElemsOf (strKind P w) es.toList := elems_t g
  have hlen : es.size = xs.length := by rw [← hxs, List.length_map, Array.length_toList]
  unfold setAddHashed setAddHashedIn
  refine wpAny_holding (wpAny_bind (wpAny_setState_of ho hd hf ?_))
  dsimp only
  rw [byScan_of hsc hb hel]
  simp only [↓reduceIte]
  unfold setAddByScan
  refine wpAny_bind ?_
  refine wpAny_bind (wpAny_rule ?_)
  refine wpAny_bind (wpAny_setScan_of hkey ho hd hf hel ?_)
  cases hfi : List.findIdx? (fun e => (strKind P w).is x e.2) es.toList with
  | some j =>
    dsimp only
    obtain ⟨hj, pj, _⟩ := List.findIdx?_eq_some_iff_getElem.mp hfi
    have hin : x ∈ xs := by rw [← hxs]; exact (mem_t g x).2 ⟨es.toList[j], List.getElem_mem hj, pj⟩
    exact wpAny_pure (wpAny_pure (hQ false s.heap xs (Heap.SameBut.refl a s.heap) ⟨⟨o, es, ep, t, ho, hex, hd, g, hxs, hb, hf, hr, hl⟩, nd⟩ (fun _ => rfl) fun z => absurd hin z))
  | none =>
    dsimp only
    have hnx : x ∉ xs := fun z => by
      rw [← hxs] at z
      obtain ⟨e, he, q⟩ := (mem_t g x).1 z
      have c := List.findIdx?_eq_none_iff.mp hfi e he
      rw [q] at c
      cases c
    have hgw : ∀ (b : Bool) {s₁ : Shared} {Q' : Unit → Shared → Prop}, Q' () s₁ → wpAny (model P w) A (match b with | true => rule "set.scan.the-table-gave-way" | false => pure ()) Q' E s₁ :=
      fun b s₁ Q' q => by cases b <;> first | exact wpAny_pure q | exact wpAny_rule q
    have pm := layNew_perm t es ((strKind P w).hash x) (.str x tk)
    have f1 := layNew_fits t es ((strKind P w).hash x) (.str x tk)
    have r1 := layNew_ris t es ((strKind P w).hash x) (.str x tk) hr
    have l1 := layNew_led t es ((strKind P w).hash x) (.str x tk)
    generalize layNew t es ((strKind P w).hash x) (.str x tk) = Z at pm f1 r1 l1 ⊢
    obtain ⟨es1, t1, was, gv⟩ := Z
    dsimp only at pm f1 r1 l1 ⊢
    rw [Array.toList_push] at pm
    have pc : es1.toList.Perm (((strKind P w).hash x, Value.str x tk) :: es.toList) := pm.trans (List.perm_append_singleton _ _)
    have pk : (es1.toList.map txOf).Perm (x :: xs) := by
      have := pc.map txOf
      rw [List.map_cons, hxs] at this
      exact this
    have g1 : ∀ e ∈ es1.toList, GoodT P w e := fun e he => by
      rcases List.mem_cons.mp (pc.mem_iff.mp he) with z | z
      · rw [z]; exact ⟨x, tk, rfl, rfl⟩
      · exact g e z
    have n1 : (es1.toList.map txOf).Nodup := pk.nodup_iff.mpr (List.nodup_cons.mpr ⟨hnx, nd⟩)
    have z1 : es1.size = xs.length + 1 := by rw [← Array.length_toList, pc.length_eq, List.length_cons, Array.length_toList, hlen]
    have b1 : es1.size < scanBound := by rw [z1]; exact room
    have ld : w.params.followText "set-order" = true ∨ t1.led = true := hl.imp id fun z => by rw [l1]; exact z
    have fin : ∀ h' ys, Heap.SameBut a s.heap h' → TxR P w h' a ys → ys.Perm (es1.toList.map txOf) → Q true { s with heap := h' } := fun h' ys sb r p => hQ true h' ys sb r (fun z => absurd z hnx) fun _ => p.trans pk
    refine wpAny_bind (hgw _ ?_)
    split
    · refine wpAny_bind ?_
      rw [hashByValue_scannable 8 hsc]
      refine wpAny_pure ?_
      refine tail_t ?_ ho hex hd g1 n1 b1 ?_ ?_ ?_ ?_
      · intro b s₁ Q' q; cases b <;> first | exact wpAny_pure q | exact wpAny_rule q
      · first | (split <;> first | exact f1 | exact SetTable.fits_plain_off f1) | exact f1
      · first | (split <;> exact r1) | exact r1
      · first | (split <;> exact ld) | exact ld
      · intro h' ys sb r p; dsimp only; exact wpAny_pure (fin h' ys sb r p)
    · refine wpAny_bind (wpAny_pure ?_)
      simp only [↓reduceIte]
      refine tail_t ?_ ho hex hd g1 n1 b1 f1 r1 ld ?_
      · intro b s₁ Q' q; cases b <;> first | exact wpAny_pure q | exact wpAny_rule q
      · intro h' ys sb r p; dsimp only; exact wpAny_pure (fin h' ys sb r p)
theorem fresh_t {h : Heap} {b : Addr} (ho : h.get? b = some { cls := .type "set", dict := none, data := .set #[] 0 (.fresh 0 0 (!w.params.followText "set-order")) }) : TxR P w h b [] :=
  ⟨⟨_, #[], 0, _, ho, ⟨rfl, rfl, rfl⟩, rfl, (fun e he => by simp at he), rfl, (by decide), (by rfl), List.Pairwise.nil, by
    show _ ∨ (!w.params.followText "set-order") = true
    cases w.params.followText "set-order"
    · exact .inr rfl
    · exact .inl rfl⟩, List.nodup_nil⟩
end
end DLS
namespace DLS
open PySem PySem.Spec PyProof.Rows L2
/-- what the set has of the first i texts -/
structure Has (ks : List Str) (i : Nat) (xs : List Str) : Prop where
  iff : ∀ x, x ∈ xs ↔ x ∈ ks.take i
  len : xs.length ≤ i
theorem Has.zero (ks : List Str) : Has ks 0 [] := ⟨fun x => by simp, Nat.le_refl _⟩
theorem Has.next {ks xs ys : List Str} {i : Nat} {x : Str} (g : Has ks i xs) (hx : ks[i]? = some x) (h1 : x ∈ xs → ys = xs) (h2 : x ∉ xs → ys.Perm (x :: xs)) : Has ks (i + 1) ys := by
  have e : ks.take (i + 1) = ks.take i ++ [x] := by rw [List.take_succ, hx] <;> rfl
  by_cases hm : x ∈ xs
  · rw [h1 hm]
    refine ⟨fun y => ?_, Nat.le_succ_of_le g.len⟩
    rw [e, List.mem_append, List.mem_singleton, ← g.iff]
    exact ⟨.inl, fun z => z.elim id fun z => by rw [z]; exact hm⟩
  · have p := h2 hm
    refine ⟨fun y => ?_, ?_⟩
    · rw [e, List.mem_append, List.mem_singleton, ← g.iff, p.mem_iff, List.mem_cons]
      exact Or.comm
    · rw [p.length_eq, List.length_cons]
      exact Nat.succ_le_succ g.len
section
variable {P : Program} {w : World} {A : Around} {E : Value → Shared → Prop} {s : Shared}
theorem update_t {I : Addr} {fp wr : List Addr} {G : Array GenState → Array GenState → Prop} {n : Nat} {Pv : Nat → Value → Prop} {St : Nat → Shared → Prop} {R : Result → Shared → Prop}
    (W : WalksS P w A.in1 I fp wr G n Pv St) (Sa : Addr) (hSf : Sa ∉ fp) (ks : List Str) (hn : n = ks.length) (hfew : ks.length + 1 < scanBound) (hval : ∀ i v, Pv i v → ∃ x t, ks[i]? = some x ∧ v = .str x t)
    (h0 : Heap) (hS0 : h0.get? Sa = none) (hw0 : ∀ b ∈ wr, h0.get? b = none) :
    ∀ (k i : Nat) (s : Shared), n - i = k → i ≤ n → St i s → (∀ b o, h0.get? b = some o → s.heap.get? b = some o) → (∃ xs, TxR P w s.heap Sa xs ∧ Has ks i xs) →
      (∀ s' xs, Moved (Sa :: wr) G s s' → TxR P w s'.heap Sa xs → Has ks n xs → (∀ b o, h0.get? b = some o → s'.heap.get? b = some o) → R (.ok (.ret .none)) s') →
      codeAny (model P w) A (.builtin "set.update.loop" ⟨[.ref Sa, .ref I], []⟩) R s := by
  have hSw : Sa ∉ wr := fun z => hSf (W.sub _ z)
  have sub : ∀ b ∈ wr, b ∈ Sa :: wr := fun b hb => List.mem_cons_of_mem _ hb
  have kM : ∀ {s s' : Shared}, Moved wr G s s' → (∀ b o, h0.get? b = some o → s.heap.get? b = some o) → ∀ b o, h0.get? b = some o → s'.heap.get? b = some o := fun mv kp b o e =>
    mv.heap b o (fun hb => by rw [hw0 b hb] at e; cases e) (kp b o e)
  intro k
  induction k with
  | zero =>
    intro i s hk hi hst kp ⟨xs, hS, g⟩ hR
    have ei : i = n := by omega
    subst ei
    refine codeAny_builtin F.entry_set_update_loop ?_
    rw [Around.under_plainId F.plain_set_update_loop _]
    show wpAny _ A.in1 (pyNext (.ref I) >>= _) _ _ s
    refine wpAny_bind (W.done s _ _ hst fun s' mv => ?_)
    show wpAny _ A.in1 (ret Value.none) _ _ s'
    exact wpAny_pure (hR s' xs (mv.mono sub) (hS.at fun o e => mv.heap Sa o hSw e) g (kM mv kp))
  | succ k ih =>
    intro i s hk hi hst kp ⟨xs, hS, g⟩ hR
    have lt : i < n := by omega
    refine codeAny_builtin F.entry_set_update_loop ?_
    rw [Around.under_plainId F.plain_set_update_loop _]
    show wpAny _ A.in1 (pyNext (.ref I) >>= _) _ _ s
    refine wpAny_bind (W.item i s _ _ lt hst fun v s' hP hst' mv => ?_)
    obtain ⟨x, t, hx, rfl⟩ := hval i v hP
    have kp' := kM mv kp
    have hS' : TxR P w s'.heap Sa xs := hS.at fun o e => mv.heap Sa o hSw e
    show wpAny _ A.in1 (holding [Value.str x t] (setAdd Sa (.str x t)) >>= _) _ _ s'
    refine wpAny_bind (wpAny_holding ?_)
    unfold setAdd
    refine wpAny_holding ?_
    refine wpAny_bind ((strKind P w).pyHash (strKind_is P w x t) ?_)
    refine add_t (s := { s' with toks := s'.toks + 1 }) hS' (by have := g.len; omega) fun b h' ys sb hS2 c1 c2 => ?_
    have g' : Has ks (i + 1) ys := g.next hx c1 c2
    have kp2 : ∀ b o, h0.get? b = some o → h'.get? b = some o := fun b o e => (sb.2 b (fun z => by rw [z, hS0] at e; cases e)).trans (kp' b o e)
    refine wpAny_pure ⟨plainId_quiet F.plain_set_update_loop _, ih (i + 1) _ (by omega) lt (W.frame _ s' _ _ hst' (Nat.le_add_right _ _) fun b hb o e => ?_) kp2 ⟨ys, hS2, g'⟩ fun s'' zs mv'' hS'' g'' kp'' => ?_⟩
    · rw [sb.2 b (fun z : b = Sa => hSf (by rw [← z]; exact hb))]; exact e
    · refine hR s'' zs (Moved.trans W.gtrans ((mv.mono sub).then_heap (Nat.le_add_right _ _) fun b o hb e => ?_) mv'') hS'' g'' kp''
      rw [sb.2 b (fun z : b = Sa => hb (by rw [z]; exact List.mem_cons_self))]; exact e
set_option maxRecDepth 100000 in
set_option maxHeartbeats 3200000 in
theorem call_set_t {l : Addr} {items : Array Value} (ks : List Str) {Q : Value → Shared → Prop} (hh : A.handled = none) (hl : s.heap.IsList l items) (hit : StrsAre items.toList ks) (hfew : ks.length + 1 < scanBound)
    (h : ∀ (h' : Heap) (tk : Nat) xs, TxR P w h' s.heap.objs.size xs → (∀ x, x ∈ xs ↔ x ∈ ks) → (∀ b o, s.heap.get? b = some o → h'.get? b = some o) → Q (.ref s.heap.objs.size) { s with heap := h', toks := tk }) :
    wpAny (model P w) A (call (.type "set") [.ref l]) Q E s := by
  have lsz : items.size = ks.length := by
    rw [← Array.length_toList]; exact hit.length
  obtain ⟨c, tl, hmro⟩ := F.called_set.mro
  have hmade := F.called_set.made
  have hsub := F.called_set.sub
  refine wpAny_call (codeAny_of_tree ?_)
  show wpAny _ _ (callAny (.type "set") _) _ _ _
  refine wpAny_pure ⟨Code.quiet_builtin _ (by decide +kernel), codeAny_builtin F.entry_type_call ?_⟩
  rw [Around.under_plain (weight_type_call_type "set" [.ref l] []) rfl]
  have h1 := F.called_set.notType
  have h2 := F.called_set.canCreate
  have hct := F.typeCall_set_1 (.ref l)
  repeat (any_goals (first | assumption | wp_step))
  refine codeAny_mono (code_set_led1 (.ref l) (E := E) (Q₁ := fun obj s₁ => obj = .ref s.heap.objs.size ∧ s₁ = { s with heap := s.heap.push { cls := .type "set", dict := none, data := .set #[] 0 (.fresh 0 0 (!w.params.followText "set-order")) } }) ⟨rfl, rfl⟩) fun r s₁ hr => ?_
  cases r with
  | error e => exact hr
  | ok fl =>
    cases fl with
    | ret obj =>
      obtain ⟨rfl, rfl⟩ := hr
      have hS : (s.heap.push { cls := .type "set", dict := none, data := .set #[] 0 (.fresh 0 0 (!w.params.followText "set-order")) }).get? s.heap.objs.size = some { cls := .type "set", dict := none, data := .set #[] 0 (.fresh 0 0 (!w.params.followText "set-order")) } := Heap.get?_push_size _ rfl
      have hT : Shared.TypeIs { s with heap := s.heap.push { cls := .type "set", dict := none, data := .set #[] 0 (.fresh 0 0 (!w.params.followText "set-order")) } } (.ref s.heap.objs.size) "set" := ⟨_, hS, rfl⟩
      have hli := F.called_set.init.lookup
      have hbi := F.called_set.init.bind (.ref s.heap.objs.size)
      repeat (any_goals (first | assumption | wp_step))
      refine codeAny_mono (codeAny_call_builtin (R := wants (fun r s₂ => r = .none ∧ ∃ h' tk xs, s₂ = { s with heap := h', toks := tk } ∧ TxR P w h' s.heap.objs.size xs ∧ Has ks ks.length xs ∧ (∀ b o, s.heap.get? b = some o → h'.get? b = some o)) E) F.called_set.init.plain F.entry_set_init (check_set_init_1 hT ?_)) fun r₂ s₂ hr₂ => ?_
      · obtain ⟨ol, hol, hcl, nl, hdl⟩ := hl
        obtain ⟨ocls, odict, odata, oslots⟩ := ol
        simp only at hcl hdl
        subst hcl; subst hdl
        have hol' : (s.heap.push { cls := .type "set", dict := none, data := .set #[] 0 (.fresh 0 0 (!w.params.followText "set-order")) }).get? l = some { cls := .type "list", dict := odict, data := .seq items nl, slots := oslots } := Heap.get?_push_of_some _ hol
        have hsls := F.sub_list_set
        have hslf := F.sub_list_frozenset
        have hne : (Value.type "list" == Value.type "dict") = false := by decide
        have hl1 : (s.heap.push { cls := .type "set", dict := none, data := .set #[] 0 (.fresh 0 0 (!w.params.followText "set-order")) }).IsList l items := ⟨_, hol', rfl, nl, rfl⟩
        unfold Builtin.«set.__init__» noKeywords Builtin.Frozenset.updateFrom
        generalize hPI : pyIter = PI
        wp_walk
        subst hPI
        refine wpAny_pyIter_list hl1 ?_
        refine wpAny_bind (wpAny_runValue ?_)
        have hlS : l < s.heap.objs.size := Heap.lt_size hol
        have hh3 : A.in1.in1.in1.handled = none := by simp [hh]
        have hneI : l ≠ (s.heap.push { cls := .type "set", dict := none, data := .set #[] 0 (.fresh 0 0 (!w.params.followText "set-order")) }).objs.size := by
          rw [Heap.size_push]; exact Nat.ne_of_lt (Nat.lt_succ_of_lt hlS)
        have hSf : s.heap.objs.size ∉ [(s.heap.push { cls := .type "set", dict := none, data := .set #[] 0 (.fresh 0 0 (!w.params.followText "set-order")) }).objs.size, l] := by
          rw [Heap.size_push]; simp only [List.mem_cons, List.mem_singleton, List.not_mem_nil, or_false, not_or]
          exact ⟨Nat.ne_of_lt (Nat.lt_succ_self _), Nat.ne_of_gt hlS⟩
        have hval : ∀ (i : Nat) (v : Value), items[i]? = some v → ∃ x t, ks[i]? = some x ∧ v = .str x t := fun i v hv => by
          obtain ⟨y, t, e1, e2⟩ := hit.item i v (by rw [Array.getElem?_toList]; exact hv)
          exact ⟨y, t, e2, e1⟩
        have no : ∀ b, s.heap.objs.size ≤ b → s.heap.get? b = none := fun b hb => by
          cases q : s.heap.get? b with
          | none => rfl
          | some o => exact absurd (Nat.lt_of_lt_of_le (Heap.lt_size q) hb) (Nat.lt_irrefl _)
        refine update_t ((Walks.list hh3 _ l hneI items).toS) s.heap.objs.size hSf ks lsz hfew hval s.heap (no _ (Nat.le_refl _)) (fun b hb => no b (by
            rw [List.mem_singleton.mp hb, Heap.size_push]
            exact Nat.le_succ _)) (items.size - 0) 0 _ (by omega) (Nat.zero_le _)
          ⟨⟨_, Heap.get?_push_size _ rfl, rfl, rfl⟩, (hl1.push _)⟩ (fun b o e => Heap.get?_push_of_some _ (Heap.get?_push_of_some _ e)) ?a1 ?a2
        case a1 => exact ⟨[], fresh_t (Heap.get?_push_of_some _ hS), Has.zero ks⟩
        case a2 =>
          intro s' xs mv hS' g' kp
          obtain ⟨h', g2, d', tk', os'⟩ := s'
          have eg : g2 = s.gens := mv.gens
          have ed : d' = s.drawn := mv.drawn
          have eo : os' = s.os := mv.os
          subst eg; subst ed; subst eo
          show wpAny _ _ _ _ _ _
          refine wpAny_pure ?_
          show wpAny _ _ (ret Value.none) _ _ _
          rw [lsz] at g'
          exact wpAny_pure ⟨rfl, h', tk', xs, rfl, hS', g', kp⟩
      · cases r₂ with
        | error e => exact hr₂
        | ok fl₂ =>
          cases fl₂ with
          | ret r =>
            obtain ⟨rfl, h', tk, xs, rfl, hS', g', hk'⟩ := hr₂
            repeat (any_goals (first | assumption | wp_step))
            exact h _ _ _ hS' (fun x => by rw [g'.iff, List.take_length]) hk'
          | _ => exact hr₂.elim
    | _ => exact hr.elim
end
end DLS
namespace DLS
open PySem PySem.Spec PyProof.Rows L2
abbrev SV := Str × Value
def encS (b : SV) : PyData := .str b.1
theorem each_sv : ∀ {out : List Value} {bs : List SV}, PySem.W.EachIs (fun (v : Value) (b : SV) => v = b.2 ∧ ∃ t, b.2 = .str b.1 t) out bs → StrsAre out (bs.map (·.1))
  | _, _, .nil => .nil
  | _, b :: bs, .cons h t => by
    obtain ⟨e, tk, e2⟩ := h
    rw [e, e2, List.map_cons]
    exact .cons b.1 tk (each_sv t)
section
variable {P : Program} {w : World} {A : Around} {E : Value → Shared → Prop} {s : Shared}
theorem sorted_tx {a : Addr} {xs : List Str} {Q : Value → Shared → Prop} (R : TxR P w s.heap a xs) (hh : A.handled = none) (hu : A.units + 9 < cLine)
    (hQ : ∀ s' p (out : List Value) (c : Nat) (ys : List Str), (∀ b o, s.heap.get? b = some o → s'.heap.get? b = some o) → s'.gens = s.gens → s'.os = s.os → s.heap.objs.size ≤ p → s'.heap.get? p = some (seqObj "list" out.toArray c) →
      StrsAre out ys → ys.Perm xs → ys.Pairwise (fun x y => x.cps.toList ≤ y.cps.toList) → Q (.ref p) s') :
    wpAny (model P w) A (call (.builtin "sorted") [.ref a]) Q E s := by
  obtain ⟨⟨o, es, ep, t, ho, hex, hd, g, hxs, hb, hf, hr, hl⟩, nd⟩ := R
  refine Calls.call_function_entry kind_sorted plain_sorted entry_sorted (args_sorted1 _) ?_
  unfold Builtin.«sorted»
  refine wpAny_bind (m := checkCount "sorted" 1 1 _) (wpAny_pure ?_)
  refine wpAny_bind (collect_set (A := A.in1) hh ⟨o, ho, hex.1, hd⟩ hf hb hr hl fun s1 vs k1 hz g1 o1 pm => ?_)
  have hsb : scanBound ≤ 1000000 := by unfold scanBound; decide
  have hvl : vs.length = es.size := by rw [pm.length_eq, List.length_map, Array.length_toList]
  have hsz := sizeLine_eq
  -- the values with their texts
  have hvs : ∀ v ∈ vs, ∃ x tk, v = Value.str x tk := fun v hv => by
    obtain ⟨e, he, q⟩ := List.mem_map.mp (pm.mem_iff.mp hv)
    obtain ⟨x, tk, q1, _⟩ := g e he
    exact ⟨x, tk, by rw [← q, q1]⟩
  have txv : ∀ v : Value, txOf (0, v) = txOf (1, v) := fun v => rfl
  have bsE : ∀ l : List Value, (∀ v ∈ l, ∃ x tk, v = Value.str x tk) → PySem.W.EachIs (fun (v : Value) (b : SV) => v = b.2 ∧ ∃ t, b.2 = .str b.1 t) l (l.map fun v => (txOf (0, v), v)) := by
    intro l
    induction l with
    | nil => intro _; exact .nil
    | cons v l ih =>
      intro h
      obtain ⟨x, tk, rfl⟩ := h v List.mem_cons_self
      exact .cons ⟨rfl, tk, rfl⟩ (ih fun u hu => h u (List.mem_cons_of_mem _ hu))
  have e6 := bsE vs hvs
  have hmap : ((vs.map fun v => (txOf (0, v), v)).map (·.1)).Perm xs := by
    rw [List.map_map]
    have q := pm.map fun v => txOf (0, v)
    rw [List.map_map] at q
    have q2 : es.toList.map ((fun v => txOf (0, v)) ∘ (·.2)) = xs := by rw [← hxs]; rfl
    rw [q2] at q
    exact q
  generalize vs.map (fun v => (txOf (0, v), v)) = bs at e6 hmap
  have hbl : bs.length = vs.length := e6.length.symm
  refine wpAny_bind (wpAny_newList ?_ (by omega))
  have hoL : (s1.heap.push (seqObj "list" vs.toArray 0)).get? s1.heap.objs.size = some (seqObj "list" vs.toArray 0) := Heap.get?_push_size _ rfl
  have er : PySem.W.EachIs (fun v b => ∃ as, Reads (s1.heap.push (seqObj "list" vs.toArray 0)) v (encS b) as ∧ s1.heap.objs.size ∉ as) vs bs := e6.mono fun v b ⟨z1, tk, z2⟩ => by
    rw [z1, z2]
    exact ⟨[], .str _ _, fun h => nomatch h⟩
  have go := PySem.W.list_sort_data (prog := P) (w := w) (A := A.in1) (E := E) (s := { s1 with heap := s1.heap.push (seqObj "list" vs.toArray 0) }) (enc := encS)
    (Q := fun _ s' => Q (.ref s1.heap.objs.size) s') hoL e6 er (PySem.W.AllAlike.of (enc := encS) fun b b' => ?_) (PySem.W.Sortable.others (enc := encS) fun b => ⟨fun z => (nomatch z), fun ys z => (nomatch z)⟩) (by omega) (fun b hb => ?_) fun out o2 eo => ?_
  · refine wpAny_bind (wpAny_holding (wpAny_mono go (fun _ s' x => ?_) fun _ _ e => e))
    exact wpAny_pure ⟨_, rfl, x⟩
  · show PySem.W.alike (.str b.1) (.str b'.1) = true
    rw [PySem.W.alike]
  · have h1' : A.in1.units = A.units + 1 := Around.in1_units _
    have h2' : (encS b).depth = 0 := rfl
    rw [h1', h2']
    omega
  · have hperm := List.mergeSort_perm bs (PySem.W.dataLe false encS)
    have hle : PySem.W.dataLe false encS = fun a b => decide (a.1.cps.toList ≤ b.1.cps.toList) := PySem.W.dataLe_str (fun b : SV => b.1)
    have hpw := List.pairwise_mergeSort (le := PySem.W.dataLe false encS) (by
        rw [hle]
        intro x y z h1 h2
        simp only [decide_eq_true_eq] at h1 h2 ⊢
        exact List.le_trans h1 h2) (by
        rw [hle]
        intro x y
        simp only [Bool.or_eq_true, decide_eq_true_eq]
        exact List.le_total _ _) bs
    generalize bs.mergeSort (PySem.W.dataLe false encS) = obs at eo hperm hpw
    obtain ⟨c, hc⟩ := sortedHeap_at (vs := vs) (out := out.toArray) hoL
    refine hQ _ s1.heap.objs.size out c (obs.map (·.1)) (fun b u e => ?_) g1 o1 hz hc (each_sv eo) ((hperm.map _).trans hmap) ?_
    · have q := k1 b u e
      have lt := Heap.lt_size q
      show (sortedHeap (s1.heap.push (seqObj "list" vs.toArray 0)) s1.heap.objs.size vs out.toArray).get? b = some u
      rw [sortedHeap_old (Nat.ne_of_lt lt) (by rw [size_push']; exact Nat.lt_succ_of_lt lt)]
      exact Heap.get?_push_of_some _ q
    · rw [List.pairwise_map]
      refine hpw.imp fun {x y} z => ?_
      rw [hle] at z
      exact of_decide_eq_true z
end
end DLS
namespace DLS
open PySem PySem.Spec PyProof.Rows L2
def SetTx (P : Program) (w : World) (a : Addr) (xs : List Str) : HO := .ext fun h => TxR P w h a xs
theorem setTx_new {P : Program} {w : World} {H : Hp} {h : Heap} {a : Addr} {xs : List Str} (R : TxR P w h a xs) : ObjOk P w H h a (SetTx P w a xs) :=
  ⟨R, (let ⟨o, _, _, _, q, _⟩ := R.ex; ⟨o, q⟩), fun h1 h2 k1 k2 => k1.at k2⟩
theorem strs_of : ∀ {ts : List Str} {us : List Value}, Vals (ts.map V.str) us → StrsAre us ts
  | [], _, .nil => .nil
  | t :: ts, _, .cons r q => by
    obtain ⟨tk, rfl⟩ := r
    exact .cons t tk (strs_of q)
theorem vals_st : ∀ {ts : List Str} {us : List Value}, StrsAre us ts → Vals (ts.map V.str) us
  | _, _, .nil => .nil
  | _, _, .cons y t q => .cons ⟨t, rfl⟩ (vals_st q)
section
variable {X : Cx}
def rSetTx (K : PySem.W.Frag) (P : Program) (w : World) : List V → Hp → VK → Prop := fun vs H Q => ∃ (l : Addr) (ts : List Str), vs = [V.ref l] ∧ SqL K H l (ts.map V.str) ∧ ts.length + 1 < scanBound ∧
  ∀ p xs, H p = none → xs.Nodup → (∀ x, x ∈ xs ↔ x ∈ ts) → Q (.ref p) (upd H p (SetTx P w p xs))
theorem cr_setTx (hc : X.calm = true) : CallR X (.type "set") (rSetTx X.K X.prog X.w) := by
  intro pins s σ H vs us Q I r ⟨l, ts, e, hl, hf, q⟩
  subst e
  rw [Vals.ref1 r]
  obtain ⟨its, rv, pl, _⟩ := I.list hl
  have hn : H s.heap.objs.size = none := I.hok.fresh (Nat.le_refl _)
  refine call_set_t ts (I.ok.hd hc) pl.isList (by simpa using strs_of rv) hf fun h' tk xs R g k => ?_
  exact ⟨.ref s.heap.objs.size, upd H s.heap.objs.size (SetTx X.prog X.w s.heap.objs.size xs), I.laid (t' := tk) k (Nat.le_refl _) (setTx_new R), rfl, q _ xs hn R.nd g⟩
def rSortTx (P : Program) (w : World) : List V → Hp → VK → Prop := fun vs H Q => ∃ (a : Addr) (xs : List Str), vs = [V.ref a] ∧ H a = some (SetTx P w a xs) ∧
  ∀ (ys : List Str) (p : Addr), ys.Perm xs → ys.Pairwise (fun x y => x.cps.toList ≤ y.cps.toList) → H p = none → Q (.ref p) (upd H p (.lst (ys.map V.str)))
theorem cr_sortTx (hc : X.calm = true) (hu : X.A.units + 9 < cLine) : CallR X (.builtin "sorted") (rSortTx X.prog X.w) := by
  intro pins s σ H vs us Q I r ⟨a, xs, e, ha, q⟩
  subst e
  have R : TxR X.prog X.w s.heap a xs := (I.hok a _ ha).1
  rw [Vals.ref1 r]
  have hx : xs.length < scanBound := by
    obtain ⟨o, es, ep, t, _, _, _, _, e1, e2, _⟩ := R.ex
    rw [← e1, List.length_map, Array.length_toList]
    exact e2
  refine sorted_tx R (I.ok.hd hc) hu fun s' p out c ys k g o hp hg hs pm pw => ?_
  have hb : scanBound ≤ 1000000 := by unfold scanBound; decide
  have hl : (ys.map V.str).length ≤ sizeLine := by rw [List.length_map, pm.length_eq, sizeLine_eq]; omega
  have hn : H p = none := I.hok.fresh hp
  have J : Inv X pins σ (upd H p (.lst (ys.map V.str))) { s with heap := s'.heap, gens := s'.gens, drawn := s'.drawn, toks := s'.toks } :=
    I.call (ch := []) (Un.laid k hp hn) (I.hok.laid k hp ⟨hl, out, c, vals_st hs, hg⟩) (by rw [g]; exact I.bare) (fun _ z => nomatch z)
  have e : s' = { s with heap := s'.heap, gens := s'.gens, drawn := s'.drawn, toks := s'.toks } := by
    cases s'
    cases s
    cases o
    rfl
  rw [e]
  exact ⟨.ref p, _, J, rfl, q ys p pm pw hn⟩
end
end DLS
namespace DL
open PySem PySem.Spec PyProof.Rows L2
section
variable {X : Cx} {F0 : Ent}
theorem relDs_str {K : PySem.W.Frag} {F : Hp} : ∀ {ts : List Tx} {vs : List V}, RelDs K F (ts.map D.str) vs → vs = (ts.map tS).map V.str
  | [], _, r => by rw [r.nil_inv]; rfl
  | t :: ts, _, r => by
    obtain ⟨v, vs, rfl, r1, r2⟩ := r.cons_inv
    rw [r1.str_e, relDs_str r2]
    rfl
theorem str_relDs {K : PySem.W.Frag} {F : Hp} : ∀ ts : List Tx, RelDs K F (ts.map D.str) ((ts.map tS).map V.str)
  | [] => .nil
  | t :: ts => .cons (.str_i _) (str_relDs ts)
theorem tS_back (ys : List Str) : (ys.map fun y => y.cps.toList).map tS = ys := by
  rw [List.map_map]
  refine (List.map_congr_left fun y _ => ?_).trans (List.map_id ys)
  exact (tS_of y).symm
theorem tS_mem {ts : List Tx} {y : Tx} : tS y ∈ ts.map tS ↔ y ∈ ts := by
  rw [List.mem_map]
  exact ⟨fun ⟨z, h1, h2⟩ => by rw [← tS_inj h2]; exact h1, fun h => ⟨y, h, rfl⟩⟩
/-- sorted(set(e)), e texts -/
def tdSortSet (te : TD) : TD := fun ρ S Q => te ρ S fun x S1 => ∃ ts : List Tx, vw S1 x = .lst (ts.map D.str) ∧ ts.length ≤ 4000 ∧ ∀ ys : List Tx, ys.Nodup → (∀ y, y ∈ ys ↔ y ∈ ts) → ys.Pairwise (· ≤ ·) → Q (.lst (ys.map D.str)) S1
theorem de_sortSet {e : Expr} {p p2 pos pos2 : Pos} {te : TD} (hu : X.A.units + 65 < cLine) (hc : X.calm = true) (hg : Gl X "sorted") (hm : X.mg "sorted" = none) (hg2 : Gl X "set") (hm2 : X.mg "set" = none) (he : DE X F0 e te) (hs : starEach [e] X.env = (false, eval e X.env) :: starEach [] X.env := by rfl) :
    DE X F0 (.Call (.Name "sorted" p) [.Call (.Name "set" p2) [e] [] pos2] [] pos) (tdSortSet te) := by
  refine PE.weak (pe_callB (DLS.cr_sortTx hc (by omega)) hg hm bb_sorted (pa_cons (pe_callTy (DLS.cr_setTx hc) hg2 hm2 (by decide +kernel) (pa_cons he pa_nil (hs := hs)) (he := hs)) pa_nil)) fun σ H Q ⟨F, S, ρ, Q', a, h, pp⟩ => ?_
  show EL X.K F0 te σ H fun v H1 => DLS.rSetTx X.K X.prog X.w [v] H1 fun u H2 => DLS.rSortTx X.prog X.w [u] H2 Q
  refine EL.go a h fun v H1 F1 S1 d x1 a1 r1 ⟨ts, e1, hl, q⟩ => ?_
  obtain ⟨l, vs, rfl, h1, k1⟩ := vw_lst a1.sr r1 e1
  have ev := relDs_str k1
  subst ev
  have hb : 4000 + 1 < scanBound := by unfold scanBound; decide
  refine ⟨l, ts.map tS, rfl, SqL.of h1, by rw [List.length_map]; omega, fun p xs hp hn hx => ⟨p, xs, rfl, upd_same, fun ys p2 pm pw hp2 => ?_⟩⟩
  have ny : ys.Nodup := pm.nodup_iff.mpr hn
  have back : ∀ y : Tx, y ∈ ys.map (fun y => y.cps.toList) ↔ tS y ∈ ys := fun y => by
    rw [List.mem_map]
    constructor
    · rintro ⟨z, h2, rfl⟩
      rw [← tS_of z]
      exact h2
    · exact fun h2 => ⟨tS y, h2, rfl⟩
  have hq := q (ys.map fun y => y.cps.toList) (List.pairwise_map.mpr (ny.imp fun {x y} h2 e => h2 (by rw [tS_of x, tS_of y, e]))) (fun y => by rw [back, pm.mem_iff, hx, tS_mem]) (List.pairwise_map.mpr pw)
  have rel := str_relDs (K := X.K) (F := upd F1 p2 (.lst (ys.map V.str))) (ys.map fun y => y.cps.toList)
  rw [tS_back] at rel
  exact pp.of (x1.trans ((Ext.laid hp).trans ((a1.sr.laid hp).ext_frz hp2))) ((a1.sr.laid hp).frz hp2) (.lst_i upd_same rel) hq
end
end DL
namespace DL
open PySem PySem.Spec PyProof.Rows L2
def enF (n : Nat) : List D → List D
  | [] => []
  | d :: r => .tup [.int (n : Nat), d] :: enF (n + 1) r
theorem enF_get : ∀ (ds : List D) (n i : Nat), (enF n ds)[i]? = ds[i]?.map fun d => D.tup [.int ((n + i : Nat) : Int), d]
  | [], _, _ => by simp [enF]
  | d :: r, n, 0 => by simp [enF]
  | d :: r, n, i + 1 => by
    unfold enF
    rw [List.getElem?_cons_succ, List.getElem?_cons_succ, enF_get r (n + 1) i, show n + 1 + i = n + (i + 1) by omega]
theorem enF_len : ∀ (ds : List D) (n : Nat), (enF n ds).length = ds.length
  | [], _ => rfl
  | d :: r, n => by unfold enF; rw [List.length_cons, List.length_cons, enF_len r]
section
variable {X : Cx} {F0 : Ent} {pos : Pos}
theorem Iters.enT {K : PySem.W.Frag} {F : Hp} {a : Addr} {xs : List V} {ds : List D} (h1 : ∀ H, Same F H → SqT K H a xs) (r1 : RelDs K F ds xs) : Iters K F (ItE K a) (enF 0 ds) where
  go := fun i H sm hi => by
    rw [enF_len] at hi
    obtain ⟨v, k1, k2⟩ := r1.get (List.getElem?_eq_getElem (show i < ds.length by omega))
    exact ⟨xs, v, h1 H sm, k1⟩
  stop := fun i H sm hi => by
    rw [enF_len] at hi
    exact ⟨xs, h1 H sm, by rw [r1.length]; omega⟩
  yld := fun i x H H' F2 S sm sr y hi => by
    obtain ⟨T, v, rfl, hT, rfl, q1⟩ := y
    have k1 := q1 _ (h1 H (sm.trans sr.fro))
    obtain ⟨d, e1, e2⟩ := r1.get' k1
    have sm2 : Same F2 (upd F2 T (.tup [.int (i : Nat), v])) := sr.same_frz hT
    refine ⟨upd F2 T (.tup [.int (i : Nat), v]), .tup [.int (i : Nat), d], sr.ext_frz hT, sr.frz hT, ?_, ?_⟩
    · rw [enF_get, e1, Nat.zero_add]
      rfl
    · exact .tup_i (.inl (.inl upd_same)) (.cons (.int_i _) (.cons (RelD.mono sm2 _ _ (RelD.mono sm _ _ e2)) .nil))
def tdiE (t : TDs) : TDI := fun ρ S Q => t ρ S fun ds S1 => ∃ xs, ds = [.tup xs] ∧ Q (enF 0 xs) S1
theorem di_en {e : Expr} {p tpos : Pos} {elts : List Expr} {kk : Nat} {tr : TDs} (hg : Gl X "enumerate") (hm : X.mg "enumerate" = none) (ha : DA X F0 [e] tr)
    (hs : starEach [e] X.env = [(false, eval e X.env)] := by rfl) :
    DI X F0 (.Tuple elts kk tpos) (.Call (.Name "enumerate" p) [e] [] pos) (tdiE tr) :=
  PI.weak (pi_enT hg hm ha hs) fun σ H R ⟨F, S, ρ, Q', a, h, pp⟩ => AL.go a h fun vs H1 F1 S1 ds x1 a1 r1 q1 => by
    obtain ⟨xs, rfl, q1⟩ := q1
    obtain ⟨v, rfl, rv⟩ := rds1 r1
    obtain ⟨b, us, rfl, h1, h2⟩ := rv.tup_e
    exact ⟨b, us, rfl, seqT a1.sr.fro h1, pp _ _ _ _ _ x1 a1.sr (.enT (fun H sm => seqT sm h1) h2) q1⟩
theorem Iters.zipT {K : PySem.W.Frag} {F : Hp} {a b : Addr} {xs ys : List V} {ds es : List D} (h1 : ∀ H, Same F H → SqT K H a xs) (r1 : RelDs K F ds xs) (h2 : ∀ H, Same F H → SqT K H b ys) (r2 : RelDs K F es ys) :
    Iters K F (RZ.ItzT K a b) (List.zipWith (fun x y => D.tup [x, y]) ds es) where
  go := fun i H sm hi => by
    rw [List.length_zipWith] at hi
    obtain ⟨v, k1, k2⟩ := r1.get (List.getElem?_eq_getElem (show i < ds.length by omega))
    obtain ⟨u, k3, k4⟩ := r2.get (List.getElem?_eq_getElem (show i < es.length by omega))
    exact ⟨xs, ys, v, u, h1 H sm, h2 H sm, k1, k3⟩
  stop := fun i H sm hi => by
    rw [List.length_zipWith] at hi
    exact ⟨xs, ys, h1 H sm, h2 H sm, by rw [r1.length, r2.length]; omega⟩
  yld := fun i x H H' F2 S sm sr y hi => by
    rw [List.length_zipWith] at hi
    obtain ⟨T, v, u, rfl, hT, rfl, q1, q2⟩ := y
    have k1 := q1 _ (h1 H (sm.trans sr.fro))
    have k2 := q2 _ (h2 H (sm.trans sr.fro))
    obtain ⟨d, e1, e2⟩ := r1.get' k1
    obtain ⟨e, e3, e4⟩ := r2.get' k2
    have sm2 : Same F2 (upd F2 T (.tup [v, u])) := sr.same_frz hT
    refine ⟨upd F2 T (.tup [v, u]), .tup [d, e], sr.ext_frz hT, sr.frz hT, ?_, ?_⟩
    · rw [List.getElem?_zipWith, e1, e3]
    · exact .tup_i (.inl (.inl upd_same)) (.cons (RelD.mono sm2 _ _ (RelD.mono sm _ _ e2)) (.cons (RelD.mono sm2 _ _ (RelD.mono sm _ _ e4)) .nil))
def tdiZT (t : TDs) : TDI := fun ρ S Q => t ρ S fun ds S1 => ∃ xs ys, ds = [.tup xs, .tup ys] ∧ Q (List.zipWith (fun x y => D.tup [x, y]) xs ys) S1
theorem di_zipT {e e2 : Expr} {p tpos : Pos} {elts : List Expr} {kk : Nat} {tr : TDs} (hg : Gl X "zip") (hm : X.mg "zip" = none) (ha : DA X F0 [e, e2] tr)
    (hs : starEach [e, e2] X.env = (false, eval e X.env) :: starEach [e2] X.env := by rfl) (hpl : (backTo pos (starEach [e2] X.env)).any (·.1) = false := by rfl) :
    DI X F0 (.Tuple elts kk tpos) (.Call (.Name "zip" p) [e, e2] [] pos) (tdiZT tr) :=
  PI.weak (RZ.pi_zipA hg hm ha hs hpl) fun σ H R ⟨F, S, ρ, Q', a, h, pp⟩ => AL.go a h fun vs H1 F1 S1 ds x1 a1 r1 q1 => by
    obtain ⟨xs, ys, rfl, q1⟩ := q1
    obtain ⟨v, w, rfl, rv, rw'⟩ := rds2 r1
    obtain ⟨b, us, rfl, h1, h2⟩ := rv.tup_e
    obtain ⟨c, ws, rfl, h3, h4⟩ := rw'.tup_e
    exact ⟨b, c, us, ws, rfl, .inr ⟨seqT a1.sr.fro h1, seqT a1.sr.fro h3, pp _ _ _ _ _ x1 a1.sr (.zipT (fun H sm => seqT sm h1) h2 (fun H sm => seqT sm h3) h4) q1⟩⟩
end
end DL
namespace DL
open PySem PySem.Spec PyProof.Rows L2
abbrev Tri := DL.D × V × Value
theorem tri {K : PySem.W.Frag} {F : Hp} : ∀ {ds : List DL.D} {vs : List V} {us : List Value}, RelDs K F ds vs → Vals vs us → ∃ bs : List Tri, bs.map (·.1) = ds ∧ bs.map (·.2.1) = vs ∧ bs.map (·.2.2) = us ∧ ∀ b ∈ bs, RelD K F b.1 b.2.1 ∧ RelV b.2.1 b.2.2
  | [], _, _, r, q => by
    have := r.nil_inv
    subst this
    cases q
    exact ⟨[], rfl, rfl, rfl, fun _ h => nomatch h⟩
  | d :: ds, _, _, r, q => by
    obtain ⟨v, vs, rfl, r1, r2⟩ := r.cons_inv
    cases q with
    | cons q1 q2 =>
      obtain ⟨bs, h1, h2, h3, h4⟩ := tri r2 q2
      rename_i u us
      refine ⟨(d, v, u) :: bs, by rw [List.map_cons, h1], by rw [List.map_cons, h2], by rw [List.map_cons, h3], fun b hb => ?_⟩
      rcases List.mem_cons.mp hb with rfl | hb
      · exact ⟨r1, q1⟩
      · exact h4 b hb
theorem tri_rel {K : PySem.W.Frag} {F : Hp} : ∀ {bs : List Tri}, (∀ b ∈ bs, RelD K F b.1 b.2.1 ∧ RelV b.2.1 b.2.2) → RelDs K F (bs.map (·.1)) (bs.map (·.2.1)) ∧ Vals (bs.map (·.2.1)) (bs.map (·.2.2))
  | [], _ => ⟨.nil, .nil⟩
  | b :: bs, h => by
    obtain ⟨a, c⟩ := tri_rel (bs := bs) fun b hb => h b (List.mem_cons_of_mem _ hb)
    obtain ⟨d, e⟩ := h b (List.mem_cons_self ..)
    exact ⟨.cons d a, .cons e c⟩
abbrev trR (v : Value) (b : Tri) : Prop := v = b.2.2
theorem tri_each : ∀ bs : List Tri, PySem.W.EachIs trR (bs.map (·.2.2)) bs
  | [] => .nil
  | _ :: r => .cons rfl (tri_each r)
theorem tri_out : ∀ {out : List Value} {bs : List Tri}, PySem.W.EachIs trR out bs → out = bs.map (·.2.2)
  | _, _, .nil => rfl
  | _, _, .cons h t => by rw [List.map_cons, h, ← tri_out t]
/-- data that may be sorted: alike, tuples that are not empty or neither None nor tuples -/
structure CanSort (ds : List DL.D) : Prop where
  pure : D.pures ds = true
  alike : ∀ d ∈ ds, ∀ e ∈ ds, PySem.W.alike d.data e.data = true
  sortable : PySem.W.Sortable (ds.map DL.D.data)
  deep : ∀ d ∈ ds, d.data.depth ≤ 8
  len : ds.length ≤ sizeLine
theorem pures_mem : ∀ {ds : List DL.D}, D.pures ds = true → ∀ d ∈ ds, d.pure = true
  | d :: ds, h, e, he => by
    unfold D.pures at h
    obtain ⟨h1, h2⟩ := Bool.and_eq_true_iff.mp h
    rcases List.mem_cons.mp he with rfl | he
    · exact h1
    · exact pures_mem h2 e he
section
variable {X : Cx} {pins : List (Addr × Obj)} {σ : L2.St} {H : Hp} {s : Shared}
theorem sort_tail {h' : Heap} {tk : Nat} {vs : List V} {us : List Value} {F : Hp} {S : Store} {ds : List DL.D} {Q : VK} {Q' : DL.D → Store → Prop} (hu : X.A.units + 65 < cLine)
    (I : Inv X pins σ H { s with heap := h', toks := tk }) (rv : Vals vs us) (sr : SR X.K F S H) (rd : RelDs X.K F ds vs) (C : CanSort ds) (q : ∀ es : List DL.D, es.Perm ds → Q' (.lst es) S) (p : Post X.K F S H Q' Q) :
    wpAny (model X.prog X.w) X.A.in1 (call (.builtin "list.sort") [.ref h'.objs.size]) (fun _ s' => EP X pins σ Q (.ref h'.objs.size) s') X.xe { s with heap := h'.push (seqObj "list" us.toArray 0), toks := tk } := by
  obtain ⟨bs, b1, b2, b3, b4⟩ := tri rd rv
  have hlen : bs.length = ds.length := by rw [← b1, List.length_map]
  have hul : us.length = bs.length := by rw [← b3, List.length_map]
  have hoL : (h'.push (seqObj "list" us.toArray 0)).get? h'.objs.size = some (seqObj "list" us.toArray 0) := Heap.get?_push_size _ rfl
  have mem : ∀ b ∈ bs, b.1 ∈ ds := fun b hb => by rw [← b1]; exact List.mem_map_of_mem hb
  have e6 : PySem.W.EachIs trR us bs := by rw [← b3]; exact tri_each bs
  have er : PySem.W.EachIs (fun v (b : Tri) => ∃ as, Reads (h'.push (seqObj "list" us.toArray 0)) v b.1.data as ∧ h'.objs.size ∉ as) us bs := by
    refine PySem.W.EachIs.of_zip hul fun pr hpr => ?_
    have g1 : pr.1 = pr.2.2.2 := e6.zip pr hpr
    have g2 := (List.of_mem_zip hpr).2
    obtain ⟨r1, r2⟩ := b4 pr.2 g2
    obtain ⟨as, ra⟩ := Dp.reads I pr.2.1.data _ _ (RelD.dp sr.fro _ _ (pures_mem C.pure _ (mem _ g2)) r1) r2
    rw [g1]
    exact ⟨as, Reads.keeps (fun b o e => Heap.get?_push_of_some _ e) ra, fun hm => by
      obtain ⟨o, ho⟩ := PyProof.On.reads_mem_get ra _ hm
      exact Nat.lt_irrefl _ (Heap.lt_size ho)⟩
  refine PySem.W.list_sort_data (prog := X.prog) (w := X.w) (A := X.A.in1) (E := X.xe) (s := { s with heap := h'.push (seqObj "list" us.toArray 0), toks := tk }) (enc := fun b : Tri => b.1.data)
    (Q := fun _ s' => EP X pins σ Q (.ref h'.objs.size) s') hoL e6 er ?_ ?_ (by rw [hlen]; exact C.len) (fun b hb => ?_) fun out ho2 eo => ?_
  · intro d hd d' hd'
    obtain ⟨b, hb, rfl⟩ := List.mem_map.mp hd
    obtain ⟨b', hb', rfl⟩ := List.mem_map.mp hd'
    exact C.alike _ (mem b hb) _ (mem b' hb')
  · have := C.sortable
    rw [← b1, List.map_map] at this
    exact this
  · have := C.deep _ (mem b hb)
    have h1' : X.A.in1.units = X.A.units + 1 := Around.in1_units _
    rw [h1']
    omega
  · have eout := tri_out eo
    have hperm := List.mergeSort_perm bs (PySem.W.dataLe false fun b : Tri => b.1.data)
    generalize bs.mergeSort (PySem.W.dataLe false fun b : Tri => b.1.data) = obs at eout hperm
    subst eout
    obtain ⟨e', he'⟩ := sortedHeap_at (vs := us) (out := (obs.map (·.2.2)).toArray) hoL
    have hob : obs.length = bs.length := hperm.length_eq
    have nH : H h'.objs.size = none := I.hok.fresh (Nat.le_refl _)
    obtain ⟨t1, t2⟩ := tri_rel (bs := obs) fun b hb => b4 b (hperm.mem_iff.mp hb)
    refine ⟨.ref h'.objs.size, upd H h'.objs.size (.lst (obs.map (·.2.1))), I.laid (t' := tk) (fun b u e => ?_) (Nat.le_refl _)
      (show ObjOk X.prog X.w _ _ _ (.lst (obs.map (·.2.1))) from ⟨by rw [List.length_map, hob, hlen]; exact C.len, obs.map (·.2.2), e', t2, he'⟩), rfl, ?_⟩
    · have hb : b < h'.objs.size := Heap.lt_size e
      rw [sortedHeap_old (Nat.ne_of_lt hb) (by rw [size_push']; exact Nat.lt_succ_of_lt hb)]
      exact Heap.get?_push_of_some _ e
    · have hq := q (obs.map (·.1)) (by rw [← b1]; exact hperm.map _)
      exact p.of (sr.ext_frz nH) (sr.frz nH) (.lst_i upd_same (RelDs.mono (sr.same_frz nH) _ _ t1)) hq
end
end DL
namespace DL
open PySem PySem.Spec PyProof.Rows L2
theorem keys_rel {K : PySem.W.Frag} {F : Hp} : ∀ {kvs : List (NestedKey × DL.D × DL.D)} {zs : XN}, RelN K F kvs zs → RelDs K F (kvs.map (·.2.1)) (zs.map fun z => V.ref z.2.1)
  | _, _, Paired.nil => .nil
  | _, _, Paired.cons h t => .cons h.2.2.1 (keys_rel t)
theorem kn_vals : ∀ {xs : XN} {ys : YN}, KN xs ys → Vals (xs.map fun z => V.ref z.2.1) (ys.map fun z => Value.ref z.2.1)
  | _, _, Paired.nil => .nil
  | _, _, Paired.cons h t => .cons (congrArg Value.ref h.2.1.symm) (kn_vals t)
section
variable {X : Cx} {w : World}
def gSortND (w : World) : DCall := fun S ds Q => ∃ a kvs, ds = [.ref a] ∧ S a = some (.dn w a kvs) ∧ CanSort (kvs.map (·.2.1)) ∧ ∀ es : List DL.D, es.Perm (kvs.map (·.2.1)) → Q (.lst es) S
theorem oc_sortND (hw : X.w = w) (hu : X.A.units + 65 < cLine) (hcalm : X.calm = true) : CallR X (.builtin "sorted") (CL X.K (gSortND w)) := by
  subst hw
  intro pins s σ H xs us Q I r ⟨F, S, ds, Q', sr, rd, ⟨a, kvs, e1, e2, C, q⟩, p⟩
  subst e1
  obtain ⟨v, rfl, rv⟩ := rds1 rd
  obtain rfl := rv.ref_e
  obtain ⟨u, eu, rx⟩ := vals1 r
  subst eu
  cases rx
  obtain ⟨zs, h1, h2⟩ := sr.nat e2
  obtain ⟨z, hd, ys, rel, dd⟩ := nat_of I h1
  obtain ⟨o, es, ep, ho, hc, hdat, he, his, hn⟩ := dd
  have hes : es.size = ys.length := size_of_entries he
  have hkr := keys_rel h2
  have hkv := kn_vals rel
  have hyl : ys.length = (kvs.map (·.2.1)).length := by
    have a1 := hkr.length
    have a2 := hkv.length
    rw [List.length_map] at a1 a2
    rw [List.length_map] at a2
    omega
  refine Calls.call_function_entry kind_sorted plain_sorted entry_sorted (args_sorted1 _) ?_
  unfold Builtin.«sorted»
  refine wpAny_bind (m := checkCount "sorted" 1 1 _) (wpAny_pure ?_)
  refine wpAny_bind (PySem.W.kdu_collect (A := X.A.in1) (kdl_raw (prog := X.prog) (w := X.w) hd hc hdat) (I.ok.hd hcalm) ho (by have := C.len; omega) fun h' tk acc hk hacc => ?_)
  have hac : acc.toList = ys.map fun y => Value.ref y.2.1 := by
    refine List.ext_getElem? fun j => ?_
    cases q1 : acc.toList[j]? with
    | none =>
      have g1 := List.getElem?_eq_none_iff.mp q1
      refine (List.getElem?_eq_none_iff.mpr ?_).symm
      rw [List.length_map, ← hes, ← hacc.1]
      simpa using g1
    | some v =>
      obtain ⟨en, g1, g2⟩ := hacc.2 j v (by rw [← Array.getElem?_toList]; exact q1)
      rw [entry_at he j] at g1
      obtain ⟨y, g3, g4⟩ := Option.map_eq_some_iff.mp g1
      rw [List.getElem?_map, g3, g2, ← g4]
      rfl
  have I1 : Inv X pins σ H { s with heap := h', toks := tk } := I.kept hk
  refine wpAny_bind (wpAny_newList ?_ (by rw [hac, List.length_map]; have := C.len; omega))
  have go := sort_tail (Q := Q) hu I1 (us := acc.toList) (by rw [hac]; exact hkv) sr hkr C q p
  refine wpAny_bind (wpAny_holding (wpAny_mono go (fun _ s' x => ?_) fun _ _ e => e))
  exact wpAny_pure ⟨_, rfl, x⟩
def gSortL : DCall := fun S ds Q => ∃ x xs, ds = [x] ∧ vw S x = .lst xs ∧ CanSort xs ∧ ∀ es : List DL.D, es.Perm xs → Q (.lst es) S
theorem oc_sortL (hu : X.A.units + 65 < cLine) : CallR X (.builtin "sorted") (CL X.K gSortL) := by
  intro pins s σ H xs us0 Q I r ⟨F, S, ds0, Q', sr, rd0, ⟨x, ds, e1, e2, C, q⟩, p⟩
  subst e1
  obtain ⟨v, rfl, rv0⟩ := rds1 rd0
  obtain ⟨l, vs, rfl, hl, rd⟩ := vw_lst sr rv0 e2
  rw [Vals.ref1 r]
  obtain ⟨us, rv, pl, _⟩ := I.list (SqL.of hl)
  obtain ⟨bs, b1, b2, b3, b4⟩ := tri rd rv
  have hlen : bs.length = ds.length := by rw [← b1, List.length_map]
  have hul : us.length = bs.length := by rw [← b3, List.length_map]
  have mem : ∀ b ∈ bs, b.1 ∈ ds := fun b hb => by rw [← b1]; exact List.mem_map_of_mem hb
  have e6 : PySem.W.EachIs trR us bs := by rw [← b3]; exact tri_each bs
  have er : PySem.W.EachIs (fun v (b : Tri) => ∃ as, Reads s.heap v b.1.data as) us bs := by
    refine PySem.W.EachIs.of_zip hul fun pr hpr => ?_
    have g1 : pr.1 = pr.2.2.2 := e6.zip pr hpr
    have g2 := (List.of_mem_zip hpr).2
    obtain ⟨r1, r2⟩ := b4 pr.2 g2
    rw [g1]
    exact Dp.reads I pr.2.1.data _ _ (RelD.dp sr.fro _ _ (pures_mem C.pure _ (mem _ g2)) r1) r2
  refine PySem.W.sorted_data (enc := fun b : Tri => b.1.data) pl.isList e6 er ?_ ?_ (by rw [hlen]; exact C.len) (fun b hb => ?_) fun out ho2 eo => ?_
  · intro d hd d' hd'
    obtain ⟨b, hb, rfl⟩ := List.mem_map.mp hd
    obtain ⟨b', hb', rfl⟩ := List.mem_map.mp hd'
    exact C.alike _ (mem b hb) _ (mem b' hb')
  · have := C.sortable
    rw [← b1, List.map_map] at this
    exact this
  · have := C.deep _ (mem b hb)
    omega
  · have eout := tri_out eo
    have hperm := List.mergeSort_perm bs (PySem.W.dataLe false fun b : Tri => b.1.data)
    generalize bs.mergeSort (PySem.W.dataLe false fun b : Tri => b.1.data) = obs at eout hperm
    subst eout
    obtain ⟨e', he'⟩ := sortedAll_at s.heap us (obs.map (·.2.2)).toArray
    have hob : obs.length = bs.length := hperm.length_eq
    have nH : H (s.heap.objs.size + 1) = none := I.hok.fresh (Nat.le_succ _)
    obtain ⟨t1, t2⟩ := tri_rel (bs := obs) fun b hb => b4 b (hperm.mem_iff.mp hb)
    refine ⟨.ref (s.heap.objs.size + 1), upd H (s.heap.objs.size + 1) (.lst (obs.map (·.2.1))), I.laid (t' := s.toks) (fun b u e => sortedAll_old e) (Nat.le_succ _)
      (show ObjOk X.prog X.w _ _ _ (.lst (obs.map (·.2.1))) from ⟨by rw [List.length_map, hob, hlen]; exact C.len, obs.map (·.2.2), e', t2, he'⟩), rfl, ?_⟩
    have hq := q (obs.map (·.1)) (by rw [← b1]; exact hperm.map _)
    exact p.of (sr.ext_frz nH) (sr.frz nH) (.lst_i upd_same (RelDs.mono (sr.same_frz nH) _ _ t1)) hq
/-- a locked dict whose keys are texts -/
def gSortD : DCall := fun S ds Q => ∃ (ts : List Tx) (fs : List DL.D), ds = [.dct (ts.map Sum.inr) fs] ∧ fs.length = ts.length ∧ ts.length < 64 ∧ ∀ ys : List Tx, ys.Perm ts → Q (.lst (ys.map D.str)) S
theorem oc_sortD (hcalm : X.calm = true) : CallR X (.builtin "sorted") (CL X.K gSortD) := CallR.weak (call_sortedD hcalm) fun xs H Q ⟨F, S, ds, Q', sr, rd, ⟨ts, fs, e1, hl, h64, q⟩, p⟩ => by
  subst e1
  obtain ⟨v, rfl, rv⟩ := rds1 rd
  obtain ⟨a, o, vs, rfl, h1, h2, h3⟩ := rv.dct_e
  refine ⟨a, _, ts.map tS, rfl, .inr ⟨o, sr.fro _ _ h1⟩, ?_, by rw [List.length_map]; exact h64, fun ys p2 pm _ hn => ?_⟩
  · rw [zip_fst (by rw [h2, List.length_map, List.length_map, List.length_map]), List.map_map, List.map_map]
    rfl
  · have hp : (ys.map fun y => y.cps.toList).Perm ts := by
      have := pm.map fun y : Str => y.cps.toList
      rw [List.map_map] at this
      have e9 : ts.map ((fun y : Str => y.cps.toList) ∘ tS) = ts := (List.map_congr_left fun y _ => rfl).trans (List.map_id ts)
      rw [e9] at this
      exact this
    have rel := str_relDs (K := X.K) (F := upd F p2 (.lst (ys.map V.str))) (ys.map fun y => y.cps.toList)
    rw [tS_back] at rel
    exact p.of (sr.ext_frz hn) (sr.frz hn) (.lst_i upd_same rel) (q _ hp)
end
end DL
namespace DLS
open PySem PySem.Spec PyProof.Rows L2
/-- the view d.values() at p -/
def valsO (p d : Addr) : HO := .ext fun h => h.IsValuesView p d
theorem valsO_ok {P : Program} {w : World} {H : Hp} {h : Heap} {p d : Addr} (e : h.get? p = some { cls := .type "dict_values", data := .fields #[.ref d] }) : ObjOk P w H h p (valsO p d) :=
  ⟨⟨_, e, rfl, rfl⟩, ⟨_, e⟩, fun h1 h2 x k => let ⟨o, ho, r⟩ := x; ⟨o, k o ho, r⟩⟩
section
variable {X : Cx} {e : Expr} {te : TE} {apos cpos : Pos}
def tVals (te : TE) : TE := fun σ H Q => te σ H fun x H1 => ∃ (d : Addr) (kvs : List (L2.Key × V)), x = .ref d ∧ Rd H1 d (.dK kvs) ∧ ∀ p, H1 p = none → Q (.ref p) (upd H1 p (valsO p d))
theorem pe_vals (he : PE X e te) (hbase : attributeBase e "values" X.env (eval e X.env) = eval e X.env := by rfl) (hline : (apos.endLine == cpos.line) = true := by rfl) :
    PE X (.Call (.Attribute e "values" apos) [] [] cpos) (tVals te) := by
  refine ⟨fun pins s σ H Q I hq => ?_⟩
  refine wpAny_Call_method (T := "dict") (id := "dict.values") hbase rfl hline F.plainAttrs_dict F.slot_dict_values F.type_dict_values (thn (he.run pins s σ H _ I hq) fun u s1 ⟨x, H1, I1, rx, d, kvs, ex, hd, q⟩ => ?_)
  subst ex
  obtain rfl : u = Value.ref d := rx
  obtain ⟨hz, hs0, vs, kv, hdo⟩ := dk_rd I1.hok hd
  refine ⟨hdo.typeIs, hdo.mapOf.noDict, ?_⟩
  have I2 : Inv X pins σ (upd H1 s1.heap.objs.size (valsO s1.heap.objs.size d)) { s1 with heap := s1.heap.push { cls := .type "dict_values", data := .fields #[.ref d] } } :=
    I1.laid (t' := s1.toks) (fun b u e => Heap.get?_push_of_some _ e) (Nat.le_refl _) (valsO_ok (Heap.get?_push_size _ rfl))
  show wpAny _ _ (callWith cpos (.builtin "dict.values") [.ref d] [] []) _ X.xe s1
  exact method_meetsIn F.slot_dict_values F.entry_dict_values rfl (PySem.evalArgs_none ⟨rfl, hdo.typeIs, F.args_dict_values_1 _, _, meets_dict_values (mixKind X.prog X.w) d hs0, ⟨vs, hdo⟩, ⟨.ref _, _, I2, rfl, q _ (I1.hok.fresh (Nat.le_refl _))⟩⟩)
def rListVals : List V → Hp → VK → Prop := fun xs H Q => ∃ (p d : Addr) (kvs : List (L2.Key × V)), xs = [.ref p] ∧ H p = some (valsO p d) ∧ Rd H d (.dK kvs) ∧ ∀ q, H q = none → Q (.ref q) (upd H q (.lst (kvs.map (·.2))))
theorem vals_at {κ : Type} {kvs : List (κ × V)} {vs : List (κ × Value)} (r : KV kvs vs) : Vals (kvs.map (·.2)) (vs.map (·.2)) := by
  unfold KV at r
  induction r with
  | nil => exact .nil
  | cons h t ih => exact .cons h.2 ih
theorem cr_listVals (hc : X.calm = true) : CallR X (.type "list") rListVals := by
  intro pins s σ H xs us Q I r ⟨p, d, kvs, ex, hp, hd, q⟩
  subst ex
  rw [Vals.ref1 r]
  obtain ⟨z, lo, vs, rel, dd⟩ := dk_rd I.hok hd
  obtain ⟨ep, hat⟩ := dd.dictAt
  have view : s.heap.IsValuesView p d := (show ObjOk X.prog X.w H s.heap p (valsO p d) from I.hok p _ hp).1
  have hl := KV.length rel
  refine PySem.W.kdl_call (PySem.W.kdl_values (knd := mixKind X.prog X.w) (kvs := vs) (ep := ep)) (I.ok.hd hc) ⟨view, hat⟩ (by rw [← hl]; exact z) fun h' tk acc c' hk hD hacc => ?_
  have hv : acc.toList = vs.map (·.2) := by
    refine List.ext_getElem? fun j => ?_
    cases q1 : acc.toList[j]? with
    | none =>
      have g1 := List.getElem?_eq_none_iff.mp q1
      refine (List.getElem?_eq_none_iff.mpr ?_).symm
      rw [List.length_map, ← hacc.1]
      simpa using g1
    | some v =>
      obtain ⟨k, g1⟩ := hacc.2 j v (by rw [← Array.getElem?_toList]; exact q1)
      rw [List.getElem?_map, g1]
      rfl
  refine ⟨.ref s.heap.objs.size, upd H s.heap.objs.size (.lst (kvs.map (·.2))), I.laid (t' := tk) hk (Nat.le_refl _)
    (show ObjOk X.prog X.w _ _ _ (.lst (kvs.map (·.2))) from ⟨by rw [List.length_map]; exact z, acc.toList, c', by rw [hv]; exact vals_at rel, by rw [Array.toArray_toList]; exact hD⟩), rfl, q _ (I.hok.fresh (Nat.le_refl _))⟩
def tItems (te : TE) : TE := fun σ H Q => te σ H fun x H1 => ∃ (d : Addr) (kvs : List (L2.Key × V)), x = .ref d ∧ Rd H1 d (.dK kvs) ∧ ∀ p, H1 p = none → Q (.ref p) (upd H1 p (L2.DX.itemsO p d))
theorem pe_items (he : PE X e te) (hbase : attributeBase e "items" X.env (eval e X.env) = eval e X.env := by rfl) (hline : (apos.endLine == cpos.line) = true := by rfl) :
    PE X (.Call (.Attribute e "items" apos) [] [] cpos) (tItems te) := by
  refine ⟨fun pins s σ H Q I hq => ?_⟩
  refine wpAny_Call_method (T := "dict") (id := "dict.items") hbase rfl hline F.plainAttrs_dict F.slot_dict_items F.type_dict_items (thn (he.run pins s σ H _ I hq) fun u s1 ⟨x, H1, I1, rx, d, kvs, ex, hd, q⟩ => ?_)
  subst ex
  obtain rfl : u = Value.ref d := rx
  obtain ⟨hz, hs0, vs, kv, hdo⟩ := dk_rd I1.hok hd
  refine ⟨hdo.typeIs, hdo.mapOf.noDict, ?_⟩
  have I2 : Inv X pins σ (upd H1 s1.heap.objs.size (L2.DX.itemsO s1.heap.objs.size d)) { s1 with heap := s1.heap.push { cls := .type "dict_items", data := .fields #[.ref d] } } :=
    I1.laid (t' := s1.toks) (fun b u e => Heap.get?_push_of_some _ e) (Nat.le_refl _) (L2.DX.itemsO_ok (Heap.get?_push_size _ rfl))
  show wpAny _ _ (callWith cpos (.builtin "dict.items") [.ref d] [] []) _ X.xe s1
  exact method_meetsIn F.slot_dict_items F.entry_dict_items rfl (PySem.evalArgs_none ⟨rfl, hdo.typeIs, F.args_dict_items_1 _, _, meets_dict_items (mixKind X.prog X.w) d hs0, ⟨vs, hdo⟩, ⟨.ref _, _, I2, rfl, q _ (I1.hok.fresh (Nat.le_refl _))⟩⟩)
end
end DLS
namespace DL
open PySem PySem.Spec PyProof.Rows L2
section
variable {X : Cx} {F0 : Ent} {e : Expr} {te : TD} {apos cpos p pos : Pos}
/-- list(d.values()), d locked -/
def tdListVals (te : TD) : TD := fun ρ S Q => te ρ S fun x S1 => ∃ ks fs, x = .dct ks fs ∧ fs.length = ks.length ∧ Q (.lst fs) S1
theorem zip_snd {α β : Type} : ∀ {l : List α} {m : List β}, m.length = l.length → (l.zip m).map (·.2) = m
  | [], [], _ => rfl
  | a :: l, b :: m, h => by simp only [List.zip_cons_cons, List.map_cons]; rw [zip_snd (by simpa using h)]
theorem de_listVals (hc : X.calm = true) (hg : Gl X "list") (hm : X.mg "list" = none) (he : DE X F0 e te) (hbase : attributeBase e "values" X.env (eval e X.env) = eval e X.env := by rfl) (hline : (apos.endLine == cpos.line) = true := by rfl)
    (hs : starEach [.Call (.Attribute e "values" apos) [] [] cpos] X.env = (false, eval (.Call (.Attribute e "values" apos) [] [] cpos) X.env) :: starEach [] X.env := by rfl) :
    DE X F0 (.Call (.Name "list" p) [.Call (.Attribute e "values" apos) [] [] cpos] [] pos) (tdListVals te) := by
  refine PE.weak (pe_callTy (DLS.cr_listVals hc) hg hm (by decide +kernel) (pa_cons (DLS.pe_vals he hbase hline) pa_nil (hs := hs)) (he := hs)) fun σ H Q ⟨F, S, ρ, Q', a, h, pp⟩ => ?_
  show EL X.K F0 te σ H fun x H1 => ∃ (d : Addr) (kvs : List (L2.Key × V)), x = .ref d ∧ Rd H1 d (.dK kvs) ∧ ∀ p, H1 p = none → DLS.rListVals [.ref p] (upd H1 p (DLS.valsO p d)) Q
  refine EL.go a h fun v H1 F1 S1 d x1 a1 r1 ⟨ks, fs, e1, hl, q⟩ => ?_
  subst e1
  obtain ⟨b, o, vs, rfl, h1, h2, h3⟩ := r1.dct_e
  have hb := a1.sr.fro _ _ h1
  refine ⟨b, _, rfl, .inr ⟨o, hb⟩, fun p2 hp => ⟨p2, b, _, rfl, upd_same, .inr ⟨o, by rw [upd_ne]; exact hb; intro z; rw [z, hp] at hb; cases hb⟩, fun q2 hq2 => ?_⟩⟩
  rw [zip_snd (by rw [h2, List.length_map])]
  have sr1 := a1.sr.laid (o1 := DLS.valsO p2 b) hp
  exact pp.of (x1.trans ((Ext.laid hp).trans (sr1.ext_frz hq2))) (sr1.frz hq2) (.lst_i upd_same (RelDs.mono (sr1.same_frz hq2) _ _ h3)) q
abbrev TkE := Addr × (V × V) × DL.D × DL.D
theorem takeD {pins : List (Addr × Obj)} {σ : L2.St} {H0 : Hp} {s : Shared} {h' : Heap} {tk : Nat} {S : Store} (I0 : Inv X pins σ H0 s) : ∀ (L : List TkE) (F H1 : Hp), Inv X pins σ H1 { s with heap := h', toks := tk } → SR X.K F S H1 → (L.map (·.1)).Nodup →
    (∀ x ∈ L, s.heap.objs.size ≤ x.1 ∧ H1 x.1 = none ∧ RelD X.K F x.2.2.1 x.2.1.1 ∧ RelD X.K F x.2.2.2 x.2.1.2 ∧ ∀ H2, ObjOk X.prog X.w H2 h' x.1 (.tup [x.2.1.1, x.2.1.2])) →
    ∃ F2 H2, Inv X pins σ H2 { s with heap := h', toks := tk } ∧ SR X.K F2 S H2 ∧ Ext F S H1 F2 S H2 ∧ RelDs X.K F2 (L.map fun x => DL.D.tup [x.2.2.1, x.2.2.2]) (L.map fun x => V.ref x.1)
  | [], F, H1, I1, sr, _, _ => ⟨F, H1, I1, sr, Ext.refl _ _ _, .nil⟩
  | x :: L, F, H1, I1, sr, hn, h => by
    obtain ⟨hb, hnone, r1, r2, ok⟩ := h x (List.mem_cons_self ..)
    have I2 : Inv X pins σ (upd H1 x.1 (.tup [x.2.1.1, x.2.1.2])) { s with heap := h', toks := tk } := I1.take (h' := h') (t' := tk) (fun b ob _ e => e) (I0.fpOk hb hnone) (ok _)
    rw [List.map_cons, List.nodup_cons] at hn
    have sm : Same F (upd F x.1 (.tup [x.2.1.1, x.2.1.2])) := sr.same_frz hnone
    obtain ⟨F2, H2, I3, sr3, x3, rd⟩ := takeD I0 L (upd F x.1 (.tup [x.2.1.1, x.2.1.2])) _ I2 (sr.frz hnone) hn.2 fun c hc => by
      obtain ⟨c1, c2, c3, c4, c5⟩ := h c (List.mem_cons_of_mem _ hc)
      exact ⟨c1, by rw [upd_ne (fun z => hn.1 (by rw [← z]; exact List.mem_map_of_mem hc))]; exact c2, RelD.mono sm _ _ c3, RelD.mono sm _ _ c4, c5⟩
    refine ⟨F2, H2, I3, sr3, (sr.ext_frz hnone).trans x3, .cons (RelD.mono x3.same _ _ (.tup_i (.inl (.inl upd_same)) (.cons (RelD.mono sm _ _ r1) (.cons (RelD.mono sm _ _ r2) .nil)))) rd⟩
/-- sorted(d.items()), d locked -/
def itD (ks : List DK) (fs : List DL.D) : List DL.D := List.zipWith (fun k d => DL.D.tup [kD k, d]) ks fs
def tdSortItems (te : TD) : TD := fun ρ S Q => te ρ S fun x S1 => ∃ ks fs, x = .dct ks fs ∧ fs.length = ks.length ∧ CanSort (itD ks fs) ∧ ∀ es : List DL.D, es.Perm (itD ks fs) → Q (.lst es) S1
theorem itD_get (ks : List DK) (fs : List DL.D) (j : Nat) {k : DK} {d : DL.D} (h1 : ks[j]? = some k) (h2 : fs[j]? = some d) : (itD ks fs)[j]? = some (.tup [kD k, d]) := by
  unfold itD
  rw [List.getElem?_zipWith, h1, h2]
theorem de_sortItems (hu : X.A.units + 65 < cLine) (hc : X.calm = true) (hg : Gl X "sorted") (hm : X.mg "sorted" = none) (he : DE X F0 e te) (hbase : attributeBase e "items" X.env (eval e X.env) = eval e X.env := by rfl) (hline : (apos.endLine == cpos.line) = true := by rfl)
    (hs : starEach [.Call (.Attribute e "items" apos) [] [] cpos] X.env = (false, eval (.Call (.Attribute e "items" apos) [] [] cpos) X.env) :: starEach [] X.env := by rfl) :
    DE X F0 (.Call (.Name "sorted" p) [.Call (.Attribute e "items" apos) [] [] cpos] [] pos) (tdSortItems te) := by
  have hr : CallR X (.builtin "sorted") (fun xs H Q => ∃ (p d : Addr) (F : Hp) (S : Store) (ks : List DK) (fs : List DL.D) (Q' : DL.D → Store → Prop), xs = [.ref p] ∧ H p = some (L2.DX.itemsO p d) ∧ SR X.K F S H ∧ RelD X.K F (.dct ks fs) (.ref d) ∧ fs.length = ks.length ∧ CanSort (itD ks fs) ∧
      (∀ es : List DL.D, es.Perm (itD ks fs) → Q' (.lst es) S) ∧ Post X.K F S H Q' Q) := by
    intro pins s σ H xs us Q I r ⟨p, d, F, S, ks, fs, Q', ex, hp, sr, rd, hl, C, q, pp⟩
    subst ex
    rw [Vals.ref1 r]
    have view : s.heap.IsItemsView p d := (show ObjOk X.prog X.w H s.heap p (L2.DX.itemsO p d) from I.hok p _ hp).1
    obtain ⟨b, o, vs, e0, h1, h2, h3⟩ := rd.dct_e
    cases e0
    have hb := sr.fro _ _ h1
    obtain ⟨hd, ho, hx, es, ep, ys, hdt, hsz, kv, o2, es2, ho2, hx2, hdt2, hko, hpr, hnd⟩ := I.frzK hb
    rw [ho] at ho2; cases ho2
    rw [hdt] at hdt2; cases hdt2
    have lk : ((ks.map kk).zip vs).length = ks.length := by rw [List.length_zip, List.length_map, h2]; exact Nat.min_self _
    have hes : es.size = ks.length := by rw [hsz, lk]
    have hh : X.A.handled = none := I.ok.hd hc
    have hil : (itD ks fs).length = ks.length := by unfold itD; rw [List.length_zipWith, hl]; exact Nat.min_self _
    refine _root_.DT.sortedI (es := es) (ep := ep) hh view ⟨o, ho, hx, hdt⟩ (by rw [hes, ← hil]; exact C.len) fun h' tk as hk hlt hla hG => ?_
    have I1 : Inv X pins σ H { s with heap := h', toks := tk } := I.kept hk
    have nd : as.Nodup := List.Pairwise.imp (fun h => Nat.ne_of_lt h) hG.rise
    have lak : as.length = ks.length := hla.trans hes
    have pr : ∀ (j : Nat) (a : Addr), as[j]? = some a → ∃ (k : DK) (f : DL.D) (v : V), ks[j]? = some k ∧ fs[j]? = some f ∧ RelD X.K F f v ∧ ∀ H2, ObjOk X.prog X.w H2 h' a (.tup [kV (kk k), v]) := by
      intro j a hj
      obtain ⟨en, he1, hg1⟩ := hG.pairs j a hj
      have hj2 : j < ks.length := by rw [← lak]; exact (List.getElem?_eq_some_iff.mp hj).1
      obtain ⟨v, k1, k2⟩ := h3.get (List.getElem?_eq_getElem (show j < fs.length by omega))
      have hz : ((ks.map kk).zip vs)[j]? = some (kk ks[j], v) := by
        rw [List.getElem?_zip_eq_some]
        exact ⟨by rw [List.getElem?_map, List.getElem?_eq_getElem hj2]; rfl, k1⟩
      obtain ⟨y, y1, y2, y3⟩ := paired_get kv hz
      obtain ⟨yk, yv⟩ := y
      obtain ⟨z1, z2⟩ := Pairs.get? hpr (show es.toList[j]? = some en by rw [Array.getElem?_toList]; exact he1) y1
      refine ⟨ks[j], fs[j], v, List.getElem?_eq_getElem hj2, List.getElem?_eq_getElem _, k2, fun H2 => ?_⟩
      have rk : RelV (kV (kk ks[j])) en.key := by
        rw [show kk ks[j] = yk from y2]
        exact relV_key z1
      exact ⟨by show 2 ≤ sizeLine; decide, [en.key, en.val], .cons rk (.cons (by rw [z2]; exact y3) .nil), ⟨_, hg1, rfl, _, rfl⟩⟩
    obtain ⟨L, l1, l2, l3⟩ : ∃ L : List TkE, L.map (·.1) = as ∧ (L.map fun x => DL.D.tup [x.2.2.1, x.2.2.2]) = itD ks fs ∧
        ∀ x ∈ L, s.heap.objs.size ≤ x.1 ∧ H x.1 = none ∧ RelD X.K F x.2.2.1 x.2.1.1 ∧ RelD X.K F x.2.2.2 x.2.1.2 ∧ ∀ H2, ObjOk X.prog X.w H2 h' x.1 (.tup [x.2.1.1, x.2.1.2]) := by
      have all : ∀ j : Fin as.length, ∃ x : TkE, x.1 = as[j.1] ∧ (itD ks fs)[j.1]? = some (.tup [x.2.2.1, x.2.2.2]) ∧ s.heap.objs.size ≤ x.1 ∧ H x.1 = none ∧ RelD X.K F x.2.2.1 x.2.1.1 ∧ RelD X.K F x.2.2.2 x.2.1.2 ∧ ∀ H2, ObjOk X.prog X.w H2 h' x.1 (.tup [x.2.1.1, x.2.1.2]) := fun j => by
        obtain ⟨k, f, v, p1, p2, p3, p4⟩ := pr j.1 _ (List.getElem?_eq_getElem j.2)
        have hbl : s.heap.objs.size ≤ as[j.1] := Nat.le_of_lt (hG.above _ (List.getElem_mem j.2))
        exact ⟨(as[j.1], (kV (kk k), v), kD k, f), rfl, itD_get ks fs j.1 p1 p2, hbl, I.hok.fresh hbl, kV_rel k, p3, p4⟩
      refine ⟨List.ofFn fun j => (all j).choose, ?_, ?_, fun x hx => ?_⟩
      · refine List.ext_getElem? fun j => ?_
        rw [List.getElem?_map, List.getElem?_ofFn]
        by_cases hj : j < as.length
        · rw [dif_pos hj, List.getElem?_eq_getElem hj]
          exact congrArg some (all ⟨j, hj⟩).choose_spec.1
        · rw [dif_neg hj, List.getElem?_eq_none (by omega)]
          rfl
      · refine List.ext_getElem? fun j => ?_
        rw [List.getElem?_map, List.getElem?_ofFn]
        by_cases hj : j < as.length
        · rw [dif_pos hj]
          exact (all ⟨j, hj⟩).choose_spec.2.1.symm
        · rw [dif_neg hj, List.getElem?_eq_none (by omega)]
          rfl
      · obtain ⟨j, rfl⟩ := List.mem_ofFn.mp hx
        exact (all j).choose_spec.2.2
    obtain ⟨F2, H2, I3, sr3, x3, rd3⟩ := takeD I L F H I1 sr (by rw [l1]; exact nd) l3
    rw [l2] at rd3
    have rv : Vals (L.map fun x => V.ref x.1) (as.map Value.ref) := by
      rw [← l1, List.map_map]
      generalize L = L
      induction L with
      | nil => exact .nil
      | cons x L ih => exact .cons rfl ih
    exact sort_tail (Q := Q) hu I3 rv sr3 rd3 C q (pp.ext x3)
  refine PE.weak (pe_callB hr hg hm bb_sorted (pa_cons (DLS.pe_items he hbase hline) pa_nil (hs := hs)) (he := hs)) fun σ H Q ⟨F, S, ρ, Q', a, h, pp⟩ => ?_
  refine EL.go a h fun v H1 F1 S1 d x1 a1 r1 ⟨ks, fs, e1, hl, C, q⟩ => ?_
  subst e1
  obtain ⟨b, o, vs, rfl, h1, h2, h3⟩ := r1.dct_e
  have hb := a1.sr.fro _ _ h1
  refine ⟨b, _, rfl, .inr ⟨o, hb⟩, fun p2 hp => ⟨p2, b, F1, S1, ks, fs, Q', rfl, upd_same, a1.sr.laid hp, r1, hl, C, q, pp.ext (x1.trans (Ext.laid hp))⟩⟩
end
end DL
namespace DL
open PySem PySem.Spec PyProof.Rows L2
section
variable {X : Cx} {F0 : Ent} {e o i : Expr} {te to ti : TD} {apos cpos p pos pos' p2 : Pos} {k : Nat} {E' : XD}
theorem Iters.valsF {K : PySem.W.Frag} {F : Hp} {a : Addr} {ob : Obj} {ks : List DK} {vs : List V} {ds : List DL.D} (h : F a = some (.frz ob (.dK ((ks.map kk).zip vs)))) (hl : vs.length = ks.length) (r : RelDs K F ds vs) : Iters K F (Itd a ob ((ks.map kk).zip vs)) ds where
  go := fun i H sm hi => by
    refine ⟨sm _ _ h, ?_⟩
    have := r.length
    rw [List.length_zip, List.length_map]; omega
  stop := fun i H sm hi => by
    refine ⟨sm _ _ h, ?_⟩
    have := r.length
    rw [List.length_zip, List.length_map]; omega
  yld := fun i x H H' F2 S sm sr y hi => by
    obtain ⟨rfl, k, e1⟩ := y
    have e3 := (List.getElem?_zip_eq_some.mp e1).2
    obtain ⟨d, h1, h2⟩ := r.get' e3
    exact ⟨F2, d, Ext.refl _ _ _, sr, h1, RelD.mono sm _ _ h2⟩
def tdiVals (t : TD) : TDI := fun ρ S Q => t ρ S fun d S1 => ∃ ks ds, d = .dct ks ds ∧ Q ds S1
theorem di_vals {tg : Expr} (he : DE X F0 e te) (hbase : attributeBase e "values" X.env (eval e X.env) = eval e X.env := by rfl) (hline : (apos.endLine == cpos.line) = true := by rfl) : DI X F0 tg (.Call (.Attribute e "values" apos) [] [] cpos) (tdiVals te) :=
  PI.weak (pi_values he hbase hline) fun σ H R ⟨F, S, ρ, Q', a, h, pp⟩ => EL.go a h fun v H1 F1 S1 d x1 a1 r1 ⟨ks, ds, e1, q⟩ => by
    subst e1
    obtain ⟨b, ob, vs, rfl, h1, h2, h3⟩ := r1.dct_e
    exact ⟨b, ob, _, rfl, a1.sr.fro _ _ h1, pp _ _ _ _ _ x1 a1.sr (.valsF h1 h2 h3) q⟩
/-- dict(d), d locked: a copy -/
def gDictC : DCall := fun S ds Q => ∃ ks fs, ds = [.dct ks fs] ∧ fs.length = ks.length ∧ ∀ p, S p = none → Q (.ref p) (sup S p (.dic (ks.zip fs)))
theorem oc_dictC : CallR X (.type "dict") (CL X.K gDictC) := CallR.weak call_dictD fun xs H Q ⟨F, S, ds, Q', sr, rd, ⟨ks, fs, e1, hl, q⟩, pp⟩ => by
  subst e1
  obtain ⟨v, rfl, rv⟩ := rds1 rd
  obtain ⟨b, ob, vs, rfl, h1, h2, h3⟩ := rv.dct_e
  refine ⟨b, _, rfl, .inr ⟨ob, sr.fro _ _ h1⟩, fun p hp => ?_⟩
  have hS : S p = none := sr.snone hp
  exact pp.of (sr.ext_box (o := .dic (ks.zip fs)) hp) (sr.box (o := .dic (ks.zip fs)) hp ⟨_, rfl, relF_zip h3⟩) (.ref_i p) (q p hS)
/-- a dict's name, from here on the dict stays -/
theorem SR.freezeD {K : PySem.W.Frag} {F : Hp} {S : Store} {H : Hp} {a : Addr} {kvs : List (DK × DL.D)} (h : SR K F S H) (e : S a = some (.dic kvs)) : ∃ ws, H a = some (.dK ws) ∧ ∀ od, ∃ F', SR K F' (sdel S a) (upd H a (.frz od (.dK ws))) ∧ Ext F S H F' (sdel S a) (upd H a (.frz od (.dK ws))) ∧ RelD K F' (.dct (kvs.map (·.1)) (kvs.map (·.2))) (.ref a) := by
  obtain ⟨h1, ho, h2, ws, rfl, h3⟩ := h.obj a _ e
  refine ⟨ws, h2, fun od => ?_⟩
  have sm : Same F (upd F a (.frz od (.dK ws))) := fun b u q => by
    rw [upd_ne]; exact q
    intro z; rw [z, h1] at q; cases q
  have hz : ∀ {kvs : List (DK × DL.D)} {ws : List (L2.Key × V)}, RelF K F (kmap kvs) ws → ∃ vs, ws = ((kvs.map (·.1)).map kk).zip vs ∧ vs.length = (kvs.map (·.1)).length ∧ RelDs K F (kvs.map (·.2)) vs := by
    intro kvs
    induction kvs with
    | nil =>
      intro ws r
      obtain rfl : ws = [] := r
      exact ⟨[], rfl, rfl, .nil⟩
    | cons x kvs ih =>
      intro ws r
      obtain ⟨k', d⟩ := x
      obtain ⟨v, q, rfl, r1, r2⟩ := r
      obtain ⟨vs, rfl, l1, l2⟩ := ih r2
      exact ⟨v :: vs, rfl, by simpa using l1, .cons r1 l2⟩
  obtain ⟨vs, ez, hl, hr⟩ := hz h3
  refine ⟨upd F a (.frz od (.dK ws)), ⟨fun b u q => ?_, fun b u q => ?_⟩, ⟨sm, fun b u q n => ?_, fun b q g => ?_, fun b q => ?_⟩, RelD.dct_i (o := od) (vs := vs) (by rw [upd_same, ez]) hl (RelDs.mono sm _ _ hr)⟩
  · by_cases z : b = a
    · subst z; rw [upd_same] at q ⊢; exact q
    · rw [upd_ne z] at q ⊢; exact h.fro b u q
  · unfold sdel at q
    by_cases z : b = a
    · rw [if_pos z] at q; cases q
    · rw [if_neg z] at q
      obtain ⟨k1, ho', k2, k3⟩ := h.obj b u q
      rw [upd_ne z, upd_ne z]
      exact ⟨k1, ho', k2, k3.mono sm⟩
  · by_cases z : b = a
    · subst z; rw [e] at n; cases n
    · rw [upd_ne z]; exact q
  · by_cases z : b = a
    · subst z; exact .inl (by rw [e]; simp)
    · rw [upd_ne z] at q; exact absurd g q
  · unfold sdel at q
    by_cases z : b = a
    · rw [if_pos z] at q; exact absurd rfl q
    · rw [if_neg z] at q; exact .inl q
def tdLck (t : TD) : TD := fun ρ S Q => t ρ S fun d S1 => ∃ a kvs, d = .ref a ∧ S1 a = some (.dic kvs) ∧ Q (.dct (kvs.map (·.1)) (kvs.map (·.2))) (sdel S1 a)
theorem de_lck (h : DE X F0 e te) : DE X F0 e (tdLck te) := PE.weak (pe_locked h) fun σ H Q ⟨F, S, ρ, Q', a, h, pp⟩ => EL.go a h fun v H1 F1 S1 d x1 a1 r1 ⟨b, kvs, e1, e2, q⟩ => by
  subst e1
  obtain ⟨ws, h1, h2⟩ := a1.sr.freezeD e2
  rw [r1.ref_e]
  refine ⟨b, ws, rfl, h1, fun od => ?_⟩
  obtain ⟨F', sr, xx, rd⟩ := h2 od
  exact pp.of (x1.trans xx) sr rd q
def tdSetd (to ti te : TD) : TD := fun ρ S Q => to ρ S fun x S1 => ∃ a kvs, x = .ref a ∧ S1 a = some (.dic kvs) ∧ ti ρ S1 fun y S2 => te ρ S2 fun z S3 => ∃ kvs' k, S3 a = some (.dic kvs') ∧ y = kD k ∧ kvs'.length < sizeLine ∧
  (∀ v, valD kvs' k = some v → Q v S3) ∧ (valD kvs' k = none → Q z (sup S3 a (.dic (putD kvs' k z))))
theorem de_setd (ho : DE X F0 o to) (hi : DE X F0 i ti) (he : DE X F0 e te)
    (m1 : attributeBase o "setdefault" X.env (eval o X.env) = eval o X.env := by rfl)
    (m2 : ((backTo cpos (starEach [i, e] X.env)).all (fun x => !x.1) && (backToKw cpos (keywordEach [] X.env)).all (fun x => x.1.isSome)
      && decide (([i, e] : List Expr).length + ([] : List Keyword).length + (if ([] : List Keyword).isEmpty then 0 else 1) < 30)) = true := by rfl)
    (m3 : (apos.endLine == cpos.line) = true := by rfl) (m4 : backTo cpos (starEach [i, e] X.env) = [(false, eval i X.env), (false, eval e X.env)] := by rfl) :
    DE X F0 (.Call (.Attribute o "setdefault" apos) [i, e] [] cpos) (tdSetd to ti te) :=
  PE.weak (pe_dsetd ho hi he ⟨m1, m2, m3, m4⟩) fun σ H Q ⟨F, S, ρ, Q', at0, h, p⟩ => EL.go at0 h fun v1 H1 F1 S1 d1 x1 a1 r1 ⟨b, kvs0, e1, e2, q1⟩ => by
    subst e1
    obtain ⟨ws0, h01, h02⟩ := a1.sr.dic e2
    refine ⟨b, r1.ref_e, .inl ⟨_, .inl h01⟩, EL.go a1 q1 fun v2 H2 F2 S2 d2 x2 a2 r2 q2 => EL.go a2 q2 fun v3 H3 F3 S3 d3 x3 a3 r3 ⟨kvs, k, e3, e4, hl, qs, qn⟩ => ?_⟩
    subst e4
    obtain ⟨ws, h1, h2⟩ := a3.sr.dic e3
    refine ⟨ws, kk k, h1, kD_rel r2, by rw [h2.length, List.length_map]; exact hl, fun v hv => ?_, fun hv => ?_⟩
    · cases z : valD kvs k with
      | none =>
        rw [valD_no h2 z] at hv; cases hv
      | some d =>
        obtain ⟨w, h3, h4⟩ := valD_rel h2 z
        rw [h3] at hv; cases hv
        exact p.of ((x1.trans x2).trans x3) a3.sr h4 (qs d z)
    · cases z : valD kvs k with
      | some d =>
        obtain ⟨w, h3, h4⟩ := valD_rel h2 z
        rw [h3] at hv; cases hv
      | none =>
        exact p.of (((x1.trans x2).trans x3).trans (a3.sr.ext_write e3)) (a3.sr.write (o := .dic _) e3 ⟨_, rfl, putD_rel r3 h2⟩) (RelD.mono (Same.refl _) _ _ r3) (qn z)
def tdExt (to te : TD) : TD := fun ρ S Q => to ρ S fun x S1 => (∃ a ds, x = .ref a ∧ S1 a = some (.lst ds)) ∧ te ρ S1 fun y S2 => ∃ a ds es, x = .ref a ∧ S2 a = some (.lst ds) ∧ vw S2 y = .lst es ∧ ds.length + es.length ≤ sizeLine ∧ Q .non (sup S2 a (.lst (ds ++ es)))
theorem de_ext {a : Expr} {ta t : TD} (ho : DE X F0 a ta) (he : DE X F0 e t)
    (hbase : attributeBase a "extend" X.env (eval a X.env) = eval a X.env := by rfl)
    (hfew : ((backTo cpos (starEach [e] X.env)).all (fun x => !x.1) && (backToKw cpos (keywordEach [] X.env)).all (fun x => x.1.isSome)
      && decide ([e].length + ([] : List Keyword).length + (if ([] : List Keyword).isEmpty then 0 else 1) < 30)) = true := by rfl)
    (hline : (apos.endLine == cpos.line) = true := by rfl) (hs : starEach [e] X.env = (false, eval e X.env) :: starEach [] X.env := by rfl) :
    DE X F0 (.Call (.Attribute a "extend" apos) [e] [] cpos) (tdExt ta t) :=
  PE.weak (pe_bm PySem.F.plainAttrs_list PySem.F.slot_list_extend PySem.F.type_list_extend mt_extend ho (da_cons he da_nil hs) hbase hfew hline hs rfl) fun σ H Q ⟨F, S, ρ, Q', at0, h, p⟩ => by
    refine EL.go at0 h fun v H1 F1 S1 d x1 a1 r1 ⟨⟨b, ds, e1, e2⟩, q1⟩ => ?_
    subst e1
    obtain ⟨vs, h1, h2⟩ := a1.sr.lst e2
    rw [r1.ref_e]
    refine ⟨.inl ⟨rfl, vs, .of h1⟩, ?_⟩
    refine AL.go (Q1 := fun ds S2 => ∃ y, ds = [y] ∧ ∃ a ds es, D.ref b = .ref a ∧ S2 a = some (.lst ds) ∧ vw S2 y = .lst es ∧ ds.length + es.length ≤ sizeLine ∧ Q' .non (sup S2 a (.lst (ds ++ es)))) a1 ?_ fun ws H2 F2 S2 ys x2 a2 r2 q2 => ?_
    · show t ρ S1 fun y S2 => ∃ z, [y] = [z] ∧ _
      have e9 : (fun (y : D) (S2 : Store) => ∃ a ds es, D.ref b = .ref a ∧ S2 a = some (.lst ds) ∧ vw S2 y = .lst es ∧ ds.length + es.length ≤ sizeLine ∧ Q' .non (sup S2 a (.lst (ds ++ es)))) = fun y S2 => ∃ z, [y] = [z] ∧ ∃ a ds es, D.ref b = .ref a ∧ S2 a = some (.lst ds) ∧ vw S2 z = .lst es ∧ ds.length + es.length ≤ sizeLine ∧ Q' .non (sup S2 a (.lst (ds ++ es))) := by
        funext y S2
        refine propext ⟨fun h => ⟨y, rfl, h⟩, fun ⟨z, hz, h⟩ => ?_⟩
        cases hz
        exact h
      rw [← e9]
      exact q1
    · obtain ⟨y, rfl, a', es, zs, e3, e4, e5, hl, q3⟩ := q2
      cases e3
      obtain ⟨w, rfl, rw'⟩ := rds1 r2
      obtain ⟨us, k1, k2⟩ := a2.sr.lst e4
      obtain ⟨c, xs, rfl, k3, k4⟩ := vw_lst a2.sr rw' e5
      refine ⟨b, c, us, xs, rfl, rfl, k1, k3, by rw [k2.length, k4.length]; exact hl, ?_⟩
      exact p.of ((x1.trans x2).trans (a2.sr.ext_write e4)) (a2.sr.write (o := .lst _) e4 ⟨_, rfl, k2.append k4⟩) .non_i q3
/-- int(text) -/
def gIntT : DCall := fun S ds Q => ∃ (t : Tx) (n : Int), ds = [.str t] ∧ PySem.intText? (tS t) = some n ∧ t.length ≤ 640 ∧ Q (.int n) S
theorem oc_intT : CallR X (.type "int") (CL X.K gIntT) := CallR.weak call_int_str fun xs H Q ⟨F, S, ds, Q', sr, rd, ⟨t, n, e1, e2, e3, q⟩, pp⟩ => by
  subst e1
  obtain ⟨v, rfl, rv⟩ := rds1 rd
  exact ⟨tS t, n, by rw [rv.str_e], e2, by rw [tS_length]; exact e3, pp.of (Ext.refl _ _ _) sr (.int_i n) q⟩
/-- a tuple's truth -/
def tdTruT (t : TD) : TDT := fun ρ S Q => t ρ S fun d S1 => ∃ ds, d = .tup ds ∧ Q (!ds.isEmpty) S1
theorem dt_truT (h : DE X F0 e te) (he : ∀ whole, isTrue e X.env whole = (do let v ← whole; standAt e.pos; holding [v] (truthy v)) := by intro _; rfl) : DT X F0 e (tdTruT te) :=
  PT.weak (pt_truth h he) fun σ H Q ⟨F, S, ρ, Q', at0, h, p⟩ => EL.go at0 h fun v H1 F1 S1 d x1 a1 r1 ⟨ds, e1, q⟩ => by
    subst e1
    obtain ⟨b, vs, rfl, h1, h2⟩ := r1.tup_e
    refine ⟨!vs.isEmpty, .inr (.inl ⟨vs, seqT a1.sr.fro h1, rfl⟩), ?_⟩
    have e2 : vs.isEmpty = ds.isEmpty := by
      have := h2.length
      cases vs <;> cases ds <;> simp_all
    rw [e2]
    exact p _ _ _ _ x1 a1.sr q
/-- an own class of exceptions without an __init__ of its own -/
structure RX0 (K : PySem.W.Frag) (C : Addr) : Prop where
  q : PySem.W.excIn K C [.type "ValueError", .type "Exception", .type "BaseException", .type "object"] "ValueError.__new__" = true
  kC : PySem.W.keepIn K (.ref C) = true
  exC : PySem.W.subIn K (.ref C) (.type "BaseException") = some true
  tyC : PySem.W.typeIn K (.ref C) = some (.type "type")
def tdRaise0 (C : Addr) (E' : XD) : TDS := fun _ _ S => E' ⟨C, []⟩ S
theorem ds_raise0 {x m : Str} {C : Addr} {j : Nat} (R : RX0 X.K C) (B : BC X F0 k E') (hg : Gl X x) (hm : X.mg x = some (.ref C)) (hdb : (x == ("__debug__" : Str)) = false := by decide) :
    DS X F0 (.Raise (some (.Call (.Name x p) [.Constant (.str m) j p2] [] pos)) none pos') (tdRaise0 C E') := by
  obtain ⟨W, tk, hW⟩ := B.take
  refine PS.weak (ps_raise B.calm (takes_len tk) (pmk_own PySem.F.excBase_ValueError R.q hm R.kC (raises_own R.exC R.tyC) hg hdb)) fun D σ H ⟨F, S, ρ, D', a, h, _⟩ => ?_
  exact fun hl => hW F S H ⟨C, []⟩ (.ref C) none σ hl a.f0 a.sr ⟨rfl, .inl ⟨rfl, rfl⟩⟩ h
end
end DL
namespace DL
open PySem PySem.Spec PyProof.Rows L2
section
variable {X : Cx} {F0 : Ent} {e : Expr} {te : TD}
/-- tuple(a list): its object is told -/
def gTupP : DCall := fun S ds Q => ∃ x xs, ds = [x] ∧ vw S x = .lst xs ∧ Q (.ptp xs) S
theorem oc_tupP : CallR X (.type "tuple") (CL X.K gTupP) := by
  intro pins s σ H xs us Q I r ⟨F, S, ds, Q', sr, rd, ⟨x, zs, e1, e2, q⟩, pp⟩
  subst e1
  obtain ⟨v, rfl, rv⟩ := rds1 rd
  obtain ⟨l, ys, rfl, hl, rel⟩ := vw_lst sr rv e2
  rw [Vals.ref1 r]
  obtain ⟨its, r', pl, hz⟩ := I.list (SqL.of hl)
  have hlen := r'.length
  refine call_tuple_list pl.isList (fun h' kp => ?_) (by simp only [List.size_toArray] <;> omega)
  have I1 : Inv X pins σ H { s with heap := h' } := I.kept (t' := s.toks) kp
  have nH : H h'.objs.size = none := I1.hok.fresh (Nat.le_refl _)
  have I2 : Inv X pins σ (upd H h'.objs.size (.frz { cls := .type "tuple", data := .seq its.toArray } (.tup ys))) { s with heap := h'.push { cls := .type "tuple", data := .seq its.toArray } } :=
    I1.laid (t' := s.toks) (fun b o e => Heap.get?_push_of_some _ e) (Nat.le_refl _) (show ObjOk X.prog X.w _ _ _ (.frz _ (.tup ys)) from ⟨Heap.get?_push_size _ rfl, hz, its, r', IsTup.new _ _⟩)
  exact ⟨.ref h'.objs.size, _, I2, rfl, pp.of (sr.ext_frz nH) (sr.frz nH) (.ptp_i upd_same rfl (RelDs.mono (sr.same_frz nH) _ _ rel)) q⟩
/-- seen as a tuple -/
def tdPt (t : TD) : TD := fun ρ S Q => t ρ S fun d S1 => ∃ ds, d = .ptp ds ∧ Q (.tup ds) S1
theorem ptp_tup {K : PySem.W.Frag} {F : Hp} {ds : List DL.D} {v : V} (h : RelD K F (.ptp ds) v) : RelD K F (.tup ds) v := by
  obtain ⟨a, o, vs, rfl, h1, _, h2⟩ := h.ptp_e
  exact .tup_i (.inl (.inr ⟨o, h1⟩)) h2
theorem de_pt (h : DE X F0 e te) : DE X F0 e (tdPt te) := PE.weak h fun σ H Q ⟨F, S, ρ, Q', a, h, pp⟩ => EL.go a h fun v H1 F1 S1 d x1 a1 r1 ⟨ds, e1, q⟩ => by
  subst e1
  exact pp.of x1 a1.sr (ptp_tup r1) q
theorem pairs_two {pins : List (Addr × Obj)} {σ : L2.St} {H : Hp} {s : Shared} (I : Inv X pins σ H s) : ∀ {ps : List Addr} {kvs : List (L2.Key × V)}, Paired (fun p kv => SqT X.K H p [kV kv.1, kv.2]) ps kvs →
    ∃ (prs : List (L2.Key × Value)) (L : List (Value × Value)), KV kvs prs ∧ L.length = ps.length ∧ prs.length = L.length ∧ ∀ (j : Nat) (u x : Value), L[j]? = some (u, x) → ∃ (b : Addr) (k : L2.Key), ps[j]? = some b ∧ s.heap.IsTuple b #[u, x] ∧ prs[j]? = some (k, x) ∧ keyIs k u = true
  | _, _, .nil => ⟨[], [], .nil, rfl, rfl, fun j u x e => by simp at e⟩
  | _, _, .cons (a := p) (b := kv) h t => by
    obtain ⟨prs, L, r, hl, hl2, hp⟩ := pairs_two I t
    obtain ⟨its, rv, ht, _⟩ := I.tuple h
    obtain ⟨u, y, ei, ru, ry⟩ := vals2 rv
    subst ei
    refine ⟨(kv.1, y) :: prs, (u, y) :: L, .cons ⟨rfl, ry⟩ r, by rw [List.length_cons, List.length_cons, hl], by rw [List.length_cons, List.length_cons, hl2], fun j u' x' e => ?_⟩
    cases j with
    | zero =>
      cases (Option.some.inj e : (u, y) = (u', x'))
      exact ⟨p, kv.1, rfl, ht, rfl, kV_is (P := X.prog) (w := X.w) ru⟩
    | succ j =>
      obtain ⟨b, k, e1, e2, e3, e4⟩ := hp j u' x' (by simpa using e)
      exact ⟨b, k, by simpa using e1, e2, by simpa using e3, e4⟩
theorem kmap_keys (kvs : List (DK × DL.D)) : (kmap kvs).map (·.1) = (kvs.map (·.1)).map kk := by
  unfold kmap
  rw [List.map_map, List.map_map]
  rfl
/-- dict(a tuple of pairs whose object is told), kept as it is -/
def gDictT : DCall := fun S ds Q => ∃ xs kvs, ds = [.ptp xs] ∧ pairsD xs = some kvs ∧ (kvs.map (·.1)).Nodup ∧ kvs.length ≤ 100000 ∧ Q (.dct (kvs.map (·.1)) (kvs.map (·.2))) S
theorem oc_dictT (hcalm : X.calm = true) : CallR X (.type "dict") (CL X.K gDictT) := by
  intro pins s σ H xs us Q I r ⟨F, S, ds, Q', sr, rd, ⟨zs, kvs, e1, e2, hnd, hlen, q⟩, pp⟩
  subst e1
  obtain ⟨v, rfl, rv⟩ := rds1 rd
  obtain ⟨a, o, vs, rfl, h1, hdn, h2⟩ := rv.ptp_e
  rw [Vals.ref1 r]
  obtain ⟨ps, ws, rfl, k1, k2⟩ := pairsD_rel sr.fro e2 h2
  obtain ⟨prs, L, rel, hl, hl2, hp⟩ := pairs_two I k2
  obtain ⟨ho, hz, its, rv2, o2, ho2, hc2, n, hdat⟩ := (show ObjOk X.prog X.w H s.heap a (.frz o (.tup (ps.map V.ref))) from I.hok a _ (sr.fro _ _ h1))
  rw [ho] at ho2; cases ho2
  have ei := refs_at rv2
  subst ei
  have hwl : ws.length = kvs.length := by rw [k1.length]; unfold kmap; rw [List.length_map]
  have hpl : prs.length = kvs.length := by rw [← KV.length rel, hwl]
  have hn16 : kvs.length ≤ sizeLine := Nat.le_trans hlen (sz5 (by decide))
  have hnk : (ws.map (·.1)).Nodup := by rw [k1.keys, kmap_keys]; exact kk_nodup hnd
  refine PySem.call_dict_pairs (knd := mixKind X.prog X.w) (kvs := prs) (PairArg.tuple a (ps.map Value.ref).toArray (fun j => ps.getD j 0) L) (I.ok.hd hcalm) ⟨⟨o, n, ho, hc2, hdn, hdat⟩, ?_, fun j k v hj => ?_⟩ ⟨hl2, fun i key v hr => ?_⟩ (by rw [← hl2, hpl]; exact hn16) fun h' tk hd' hk => ?_
  · rw [List.size_toArray, List.length_map, hl]
  · obtain ⟨b, k', q1, q2, _⟩ := hp j k v hj
    refine ⟨?_, ?_⟩
    · show (ps.map Value.ref).toArray[j]? = some (.ref (ps.getD j 0))
      rw [List.getElem?_toArray, List.getElem?_map, q1, List.getD_eq_getElem?_getD, q1]
      rfl
    · show PairAt s.heap (ps.getD j 0) k v
      rw [List.getD_eq_getElem?_getD, q1]
      exact .inl q2
  · obtain ⟨b, k', q1, q2, q3, q4⟩ := hp i key v hr
    exact ⟨k', q3, q4⟩
  · have hm : (s.heap.objs.size == sysModules) = false := beq_eq_false_iff_ne.mpr (Nat.ne_of_gt I.big)
    have nH : H s.heap.objs.size = none := I.hok.fresh (Nat.le_refl _)
    have em : mergeK [] ws = ws := by rw [mergeK_nodup ws [] (by simpa using hnk)]; rfl
    have I2 : Inv X pins σ (upd H s.heap.objs.size (.dK ws)) { s with heap := h', toks := tk } :=
      I.laid (t' := tk) (fun b o e => hk b o (by simp) e) (Nat.le_refl _) (show ObjOk X.prog X.w _ _ _ (.dK ws) from ⟨by rw [hwl]; exact hn16, hm, merged [] prs, by have := KV.merge rel .nil; rw [em] at this; exact this, hd'⟩)
    obtain ⟨od, I3⟩ := I2.lock upd_same True.intro
    have eH : upd (upd H s.heap.objs.size (.dK ws)) s.heap.objs.size (.frz od (.dK ws)) = upd H s.heap.objs.size (.frz od (.dK ws)) := by
      funext b
      by_cases hb : b = s.heap.objs.size
      · rw [hb, upd_same, upd_same]
      · rw [upd_ne hb, upd_ne hb, upd_ne hb]
    rw [eH] at I3
    have hzz : ∀ {kvs : List (DK × DL.D)} {ws : List (L2.Key × V)}, RelF X.K F (kmap kvs) ws → ∃ vs, ws = ((kvs.map (·.1)).map kk).zip vs ∧ vs.length = (kvs.map (·.1)).length ∧ RelDs X.K F (kvs.map (·.2)) vs := by
      intro kvs
      induction kvs with
      | nil =>
        intro ws r
        obtain rfl : ws = [] := r
        exact ⟨[], rfl, rfl, .nil⟩
      | cons x kvs ih =>
        intro ws r
        obtain ⟨k', d⟩ := x
        obtain ⟨v, q, rfl, r1, r2⟩ := r
        obtain ⟨vs, rfl, l1, l2⟩ := ih r2
        exact ⟨v :: vs, rfl, by simpa using l1, .cons r1 l2⟩
    obtain ⟨vs2, ez, hl3, hr⟩ := hzz k1
    exact ⟨.ref s.heap.objs.size, _, I3, rfl, pp.of (sr.ext_frz nH) (sr.frz nH) (.dct_i (o := od) (vs := vs2) (by rw [upd_same, ez]) hl3 (RelDs.mono (sr.same_frz nH) _ _ hr)) q⟩
end
end DL
namespace DL
open PySem PySem.Spec PyProof.Rows L2
def lc2T (vs : List Nat) (v1 : Nat) (ti1 : TDI) (tt : TDT) (te : TD) (ρ : Rho) : List D → List D → Store → (List D → Store → Prop) → Prop
  | [], acc, S, Q => Q acc S
  | d :: ds, acc, S, Q => ∃ xs, d = .tup xs ∧ xs.length = vs.length ∧ ti1 (setD ρ vs xs) S fun es S1 => lcR v1 tt te (setD ρ vs xs) es acc S1 fun acc' S2 => lc2T vs v1 ti1 tt te ρ ds acc' S2 Q
def tdLc2T (ti : TDI) (vs : List Nat) (v1 : Nat) (ti1 : TDI) (tt : TDT) (te : TD) : TD := fun ρ S Q => ti ρ S fun ds S1 => lc2T vs v1 ti1 tt te (unsetD ρ (vs ++ [v1])) ds [] S1 fun ys S2 => Q (.lst ys) S2
section
variable {X : Cx} {F0 : Ent} {pos : Pos}
theorem lc2T_go {ti ti1 : TDI} {vs : List Nat} {v1 : Nat} {tt : TDT} {te : TD} {K : PySem.W.Frag} {σ : L2.St} {H : Hp} {Q : VK} (h : EL K F0 (tdLc2T ti vs v1 ti1 tt te) σ H Q) :
    tLc2 (IL K F0 ti) (gTup K vs.length (gNames vs)) (TL K F0 tdYes) (IL K F0 ti1) (gName v1) (TL K F0 tt) (EL K F0 te) (vs ++ [v1]) [v1] σ H Q := by
  obtain ⟨F, S, ρ, Q', a, h, p⟩ := h
  refine IL.go a h fun J H1 F1 S1 ds x1 a1 it q1 D hD => ?_
  generalize hρ : unsetD ρ (vs ++ [v1]) = ρ0 at q1
  refine ⟨fun i m H => m = ds.length - i ∧ i ≤ ds.length ∧ ∃ F S acc us, Ext F1 S1 (upd H1 D (.lst us)) F S H ∧ SR K F S H ∧ RelDs K F acc us ∧ lc2T vs v1 ti1 tt te ρ0 (ds.drop i) acc S fun ys S2 => Q' (.lst ys) S2,
    ⟨ds.length, by omega, Nat.zero_le _, F1, S1, [], [], Ext.refl _ _ _, a1.sr.laid hD, .nil, q1⟩, ?_⟩
  rintro i m H2 ⟨rfl, hi, F2, S2, acc, us, x2, sr2, racc, q2⟩
  have sm : Same F1 H2 := x2.same.trans sr2.fro
  obtain ⟨nF, nS, hH⟩ := x2.laid_none a1.sr hD
  by_cases hlt : i < ds.length
  · refine .inr ⟨it.go i H2 sm hlt, fun H => ∃ F S acc us, Ext F1 S1 (upd H1 D (.lst us)) F S H ∧ SR K F S H ∧ RelDs K F acc us ∧ lc2T vs v1 ti1 tt te ρ0 (ds.drop (i + 1)) acc S fun ys S2 => Q' (.lst ys) S2, fun H' n => ⟨ds.length - (i + 1), by omega, rfl, hlt, n⟩, fun x H' y => ?_⟩
    obtain ⟨F3, d, x3, sr3, hd, rd⟩ := it.yld i x H2 H' F2 S2 x2.same sr2 y hlt
    have e : ds.drop i = d :: ds.drop (i + 1) := by
      rw [List.drop_eq_getElem_cons hlt]
      congr 1
      rw [List.getElem?_eq_getElem hlt] at hd
      exact Option.some.inj hd
    rw [e] at q2
    obtain ⟨xs, e2, e3, q2⟩ := q2
    subst e2
    have x13 : Ext F1 S1 (upd H1 D (.lst us)) F3 S2 H' := x2.trans x3
    obtain ⟨b, ws, rfl, t1, t2⟩ := rd.tup_e
    refine ⟨b, ws, rfl, seqT sr3.fro t1, by rw [t2.length]; exact e3, gNames_go (by rw [t2.length]; exact e3) ?_⟩
    have a3 : At K F0 F3 S2 H' (setD ρ0 vs xs) (setV (wipe σ (vs ++ [v1])) vs ws) := by
      refine ⟨a1.f0.trans ((Ext.laid hD).trans x13), sr3, ?_⟩
      rw [← hρ]
      exact ((a1.env.mono x13.same).wipe (vs ++ [v1])).setD t2
    refine ⟨?_, ?_⟩
    · rw [wipe_setV fun _ h => List.mem_append_left _ h, wipe_wipe]
    · generalize hσ : setV (wipe σ (vs ++ [v1])) vs ws = σ3 at a3
      refine ⟨F3, S2, _, fun b S' => b = true ∧ S' = S2, a3, (⟨rfl, rfl⟩ : true = true ∧ S2 = S2), fun b H4 F4 S4 x4 sr4 ⟨e4, e5⟩ => ?_⟩
      subst e4 e5
      have a4 : At K F0 F4 S4 H4 (setD ρ0 vs xs) σ3 := ⟨a3.f0.trans x4, sr4, a3.env.mono x4.same⟩
      have x14 := x13.trans x4
      have racc4 := RelDs.mono x4.same _ _ (RelDs.mono x3.same _ _ racc)
      refine iteT (IL.go a4 q2 fun J1 H5 F5 S5 es x5 a5 it1 q5 => ?_)
      have x15 := x14.trans x5
      have racc5 := RelDs.mono x5.same _ _ racc4
      refine ⟨fun j k H => k = es.length - j ∧ j ≤ es.length ∧ ∃ F S acc us, Ext F1 S1 (upd H1 D (.lst us)) F S H ∧ Same F5 F ∧ SR K F S H ∧ Ext F0.F F0.S F0.H F S H ∧ RelDs K F acc us ∧ lcR v1 tt te (setD ρ0 vs xs) (es.drop j) acc S fun acc' S2 => lc2T vs v1 ti1 tt te ρ0 (ds.drop (i + 1)) acc' S2 fun ys S2 => Q' (.lst ys) S2,
        ⟨es.length, by omega, Nat.zero_le _, F5, S5, acc, us, x15, Same.refl _, a5.sr, a5.f0, racc5, q5⟩, ?_⟩
      rintro j k H6 ⟨rfl, hj, F6, S6, acc6, us6, x6, s6, sr6, f6, racc6, q6⟩
      by_cases hlt2 : j < es.length
      · refine .inr ⟨it1.go j H6 (s6.trans sr6.fro) hlt2, fun H => ∃ F S acc us, Ext F1 S1 (upd H1 D (.lst us)) F S H ∧ Same F5 F ∧ SR K F S H ∧ Ext F0.F F0.S F0.H F S H ∧ RelDs K F acc us ∧ lcR v1 tt te (setD ρ0 vs xs) (es.drop (j + 1)) acc S fun acc' S2 => lc2T vs v1 ti1 tt te ρ0 (ds.drop (i + 1)) acc' S2 fun ys S2 => Q' (.lst ys) S2,
          fun H' n => ⟨es.length - (j + 1), by omega, rfl, hlt2, n⟩, fun z H7 y7 => ?_⟩
        obtain ⟨F7, d7, x7, sr7, hd7, rd7⟩ := it1.yld j z H6 H7 F6 S6 s6 sr6 y7 hlt2
        have e7 : es.drop j = d7 :: es.drop (j + 1) := by
          rw [List.drop_eq_getElem_cons hlt2]
          congr 1
          rw [List.getElem?_eq_getElem hlt2] at hd7
          exact Option.some.inj hd7
        rw [e7] at q6
        have x17 := x6.trans x7
        have h0 : (wipe σ3 [v1]).set v1 (some z) = σ3.set v1 (some z) := by
          show (σ3.set v1 none).set v1 (some z) = _
          rw [List.set_set]
        have a7 : At K F0 F7 S6 H7 ((setD ρ0 vs xs).set v1 (some d7)) ((wipe σ3 [v1]).set v1 (some z)) := by
          refine ⟨f6.trans x7, sr7, ?_⟩
          rw [h0]
          exact (a5.env.mono (s6.trans x7.same)).set rd7 v1
        refine ⟨?_, ?_⟩
        · rw [wipe_set (by simp), wipe_wipe]
        · have q6' : tt ((setD ρ0 vs xs).set v1 (some d7)) S6 fun b S1 => if b = true then te ((setD ρ0 vs xs).set v1 (some d7)) S1 fun y S2 => acc6.length < sizeLine ∧ lcR v1 tt te (setD ρ0 vs xs) (es.drop (j + 1)) (acc6 ++ [y]) S2 fun acc' S2 => lc2T vs v1 ti1 tt te ρ0 (ds.drop (i + 1)) acc' S2 fun ys S2 => Q' (.lst ys) S2
              else lcR v1 tt te (setD ρ0 vs xs) (es.drop (j + 1)) acc6 S1 fun acc' S2 => lc2T vs v1 ti1 tt te ρ0 (ds.drop (i + 1)) acc' S2 fun ys S2 => Q' (.lst ys) S2 := q6
          refine TL.go a7 q6' fun b H8 F8 S8 x8 a8 q8 => ?_
          have racc8 := RelDs.mono x8.same _ _ (RelDs.mono x7.same _ _ racc6)
          cases b with
          | false =>
            exact iteF ⟨F8, S8, acc6, us6, x17.trans x8, (s6.trans x7.same).trans x8.same, a8.sr, (a1.f0.trans (Ext.laid hD)).trans (x17.trans x8), racc8, q8⟩
          | true =>
            refine iteT (EL.go a8 q8 fun u H9 F9 S9 yd x9 a9 r9 ⟨hl, q9⟩ => ?_)
            have x19 := (x17.trans x8).trans x9
            obtain ⟨nF9, nS9, hH9⟩ := x19.laid_none a1.sr hD
            have racc9 := RelDs.mono x9.same _ _ racc8
            refine ⟨us6, hH9, by rw [racc9.length]; exact hl, ?_⟩
            have sr9 := a9.sr.re (o := .lst (us6 ++ [u])) nF9 nS9
            have x19' := Ext.reset (K := K) (o2 := .lst (us6 ++ [u])) x19
            exact ⟨F9, S9, acc6 ++ [yd], us6 ++ [u], x19', ((s6.trans x7.same).trans x8.same).trans x9.same, sr9, (a1.f0.trans (Ext.laid hD)).trans x19', racc9.append (.cons r9 .nil), q9⟩
      · refine .inl ⟨it1.stop j H6 (s6.trans sr6.fro) (by omega), ?_⟩
        rw [List.drop_eq_nil_of_le (by omega)] at q6
        exact ⟨F6, S6, acc6, us6, x6, sr6, racc6, q6⟩
  · refine .inl ⟨it.stop i H2 sm (by omega), ?_⟩
    rw [List.drop_eq_nil_of_le (by omega)] at q2
    obtain ⟨k1, k2⟩ := sr2.adoptF (ho := .lst us) nF nS
    have k3 := x2.adoptF (ho := .lst us) hD nF
    rw [upd_id hH] at k1 k3
    exact p.of (x1.trans k3) k1 (RelD.lst_i upd_same (RelDs.mono k2 _ _ racc)) q2
theorem de_lc2T {elt iter iter1 tg : Expr} {ifs : List Expr} {scope : Scope} {own : List (Str × Nat)} {y : Str} {yp : Pos} {ti ti1 : TDI} {tt : TDT} {te : TD} (vs : List Nat) (v1 : Nat) (hvs : own.map (·.2) = vs ++ [v1]) (hc : X.calm = true) (hN : X.N.Nodup) (hi : DI X F0 tg iter ti) (ok : BlkOk X.N X.env.scope scope own)
    (hg : ∀ (s : Shared) (H : Hp) (C : Addr) (cl : List (Str × Addr)) (fp : List Addr), PG (X.blk s H scope (compEnvC scope cl C X.env) fp) tg (gTup X.K vs.length (gNames vs)))
    (hi1 : ∀ (s : Shared) (H : Hp) (C : Addr) (cl : List (Str × Addr)) (fp : List Addr), DI (X.blk s H scope (compEnvC scope cl C X.env) fp) F0 (.Name y yp) iter1 ti1)
    (hg1 : ∀ (s : Shared) (H : Hp) (C : Addr) (cl : List (Str × Addr)) (fp : List Addr), PG (X.blk s H scope (compEnvC scope cl C X.env) fp) (.Name y yp) (gName v1))
    (ht : ∀ (s : Shared) (H : Hp) (C : Addr) (cl : List (Str × Addr)) (fp : List Addr), DTs (X.blk s H scope (compEnvC scope cl C X.env) fp) F0 ifs tt)
    (he : ∀ (s : Shared) (H : Hp) (C : Addr) (cl : List (Str × Addr)) (fp : List Addr), DE (X.blk s H scope (compEnvC scope cl C X.env) fp) F0 elt te) (hs : ∀ x, foldedSetIterable iter X.env x = pure x := by intro _; rfl) (hs1 : ∀ env x, foldedSetIterable iter1 env x = pure x := by intro _ _; rfl) :
    DE X F0 (.ListComp elt [⟨tg, iter, [], 0⟩, ⟨.Name y yp, iter1, ifs, 0⟩] scope pos) (tdLc2T ti vs v1 ti1 tt te) := by
  have h := pe_lc2 (pos := pos) (own := own) (vs1 := [v1]) (wi := IL X.K F0 ti) (wi1 := IL X.K F0 ti1) (tt := TL X.K F0 tdYes) (tt1 := TL X.K F0 tt) (te := EL X.K F0 te) hc hN hi ok (by rw [hvs]; simp) hg (fun _ _ _ _ _ => dts_nil) hi1 hg1 ht he hs hs1
  rw [hvs] at h
  exact PE.weak h fun σ H Q h => lc2T_go h
/-- a locked dict whose keys are texts, of any size -/
def gSortDX : DCall := fun S ds Q => ∃ (ts : List Tx) (fs : List DL.D), ds = [.dct (ts.map Sum.inr) fs] ∧ fs.length = ts.length ∧ ts.length ≤ 100000 ∧ ∀ ys : List Tx, ys.Perm ts → Q (.lst (ys.map D.str)) S
theorem strs_sort {ts : List Tx} (h : ts.length ≤ 100000) : CanSort (ts.map DL.D.str) where
  pure := by
    clear h
    induction ts with
    | nil => rfl
    | cons t ts ih => rw [List.map_cons]; unfold D.pures; rw [ih]; rfl
  alike := fun d hd e he => by
    obtain ⟨t, _, rfl⟩ := List.mem_map.mp hd
    obtain ⟨u, _, rfl⟩ := List.mem_map.mp he
    unfold D.data
    rw [PySem.W.alike]
  sortable := .inr fun d hd => by
    rw [List.map_map] at hd
    obtain ⟨t, _, rfl⟩ := List.mem_map.mp hd
    exact ⟨fun z => (nomatch z), fun xs z => (nomatch z)⟩
  deep := fun d hd => by
    obtain ⟨t, _, rfl⟩ := List.mem_map.mp hd
    unfold D.data
    exact Nat.zero_le _
  len := by rw [List.length_map]; exact Nat.le_trans h (sz5 (by decide))
theorem perm_strs {es : List DL.D} {ts : List Tx} (h : es.Perm (ts.map DL.D.str)) : ∃ ys : List Tx, ys.Perm ts ∧ es = ys.map DL.D.str := by
  have e : es = (es.map fun d => match d with | DL.D.str t => t | _ => []).map DL.D.str := by
    rw [List.map_map]
    refine ((List.map_congr_left fun d hd => ?_).trans (List.map_id es)).symm
    obtain ⟨t, _, rfl⟩ := List.mem_map.mp (h.mem_iff.mp hd)
    rfl
  refine ⟨_, ?_, e⟩
  have := h.map fun d => match d with | DL.D.str t => t | _ => []
  rw [List.map_map] at this
  exact this.trans (by rw [show ((fun d => match d with | DL.D.str t => t | _ => []) ∘ DL.D.str) = (id : Tx → Tx) from rfl, List.map_id])
theorem oc_sortDX (hu : X.A.units + 65 < cLine) (hcalm : X.calm = true) : CallR X (.builtin "sorted") (CL X.K gSortDX) := by
  intro pins s σ H xs us Q I r ⟨F, S, ds, Q', sr, rd, ⟨ts, fs, e1, hl, h5, q⟩, p⟩
  subst e1
  obtain ⟨v, rfl, rv⟩ := rds1 rd
  obtain ⟨a, o, vs, rfl, h1, h2, h3⟩ := rv.dct_e
  rw [Vals.ref1 r]
  obtain ⟨z, lo, ys, rel, dd⟩ := dk_rd I.hok (.inr ⟨o, sr.fro _ _ h1⟩)
  obtain ⟨ep, hat⟩ := dd.dictAt
  have ek : (((ts.map Sum.inr : List DK).map kk).zip vs).map (·.1) = ys.map (·.1) := rel.keys
  rw [zip_fst (by rw [h2, List.length_map, List.length_map, List.length_map])] at ek
  have hyl : ys.length = ts.length := by
    have := congrArg List.length ek
    rw [List.length_map, List.length_map, List.length_map] at this
    exact this.symm
  refine Calls.call_function_entry kind_sorted plain_sorted entry_sorted (args_sorted1 _) ?_
  unfold Builtin.«sorted»
  refine wpAny_bind (m := checkCount "sorted" 1 1 _) (wpAny_pure ?_)
  have h16 : (100000 : Nat) ≤ sizeLine := sz5 (by decide)
  refine wpAny_bind (PySem.W.kdu_collect (A := X.A.in1) (PySem.W.kdl_dict (knd := mixKind X.prog X.w) (kvs := ys) (ep := ep) lo) (I.ok.hd hcalm) hat (by omega) fun h' tk acc hk hacc => ?_)
  have I1 : Inv X pins σ H { s with heap := h', toks := tk } := I.kept hk
  have hv0 : Vals (ys.map fun p => kV p.1) acc.toList := keys_at (by rw [Array.length_toList]; exact hacc.1) fun j v e => hacc.2 j v (by rw [← Array.getElem?_toList]; exact e)
  have hv : Vals ((ts.map tS).map V.str) acc.toList := by
    have e9 := congrArg (List.map kV) ek
    rw [List.map_map, List.map_map, List.map_map] at e9
    have e8 : (ys.map fun p => kV p.1) = (ts.map tS).map V.str := by
      rw [List.map_map]
      exact e9.symm
    rw [e8] at hv0
    exact hv0
  refine wpAny_bind (wpAny_newList ?_ (by rw [Array.length_toList, hacc.1, hyl]; omega))
  have go := sort_tail (Q := Q) hu I1 hv sr (str_relDs ts) (strs_sort h5) (fun es pe => by
    obtain ⟨zs, pz, rfl⟩ := perm_strs pe
    exact q zs pz) p
  refine wpAny_bind (wpAny_holding (wpAny_mono go (fun _ s' x => ?_) fun _ _ e => e))
  exact wpAny_pure ⟨_, rfl, x⟩
end
end DL
namespace DL
open PySem PySem.Spec L2
def lcN (v : Nat) (ws : List Nat) (tt : TDT) (te : TD) (ρ : Rho) : List D → List D → Store → (List D → Store → Prop) → Prop
  | [], acc, S, Q => Q acc S
  | d :: ds, acc, S, Q => ∃ y0 xs, d = .tup [y0, .tup xs] ∧ xs.length = ws.length ∧ tt (setD ((unsetD ρ (v :: ws)).set v (some y0)) ws xs) S fun b S1 => if b = true then te (setD ((unsetD ρ (v :: ws)).set v (some y0)) ws xs) S1 fun y S2 => acc.length < sizeLine ∧ lcN v ws tt te ρ ds (acc ++ [y]) S2 Q else lcN v ws tt te ρ ds acc S1 Q
def tdLcN (ti : TDI) (v : Nat) (ws : List Nat) (tt : TDT) (te : TD) : TD := fun ρ S Q => ti ρ S fun ds S1 => lcN v ws tt te ρ ds [] S1 fun ys S2 => Q (.lst ys) S2
theorem lcN_go {F0 : Ent} {ti : TDI} {v : Nat} {ws : List Nat} {tt : TDT} {te : TD} {K : PySem.W.Frag} {σ : L2.St} {H : Hp} {Q : VK} (h : EL K F0 (tdLcN ti v ws tt te) σ H Q) :
    tLc (IL K F0 ti) (gTup K 2 (gCons (gName v) (gCons (gTup K ws.length (gNames ws)) gNil))) (TL K F0 tt) (EL K F0 te) (v :: ws) σ H Q := by
  obtain ⟨F, S, ρ, Q', a, h, p⟩ := h
  refine IL.go a h fun J H1 F1 S1 ds x1 a1 it q1 D hD => ?_
  refine ⟨fun i m H => m = ds.length - i ∧ i ≤ ds.length ∧ ∃ F S acc us, Ext F1 S1 (upd H1 D (.lst us)) F S H ∧ SR K F S H ∧ RelDs K F acc us ∧ lcN v ws tt te ρ (ds.drop i) acc S fun ys S2 => Q' (.lst ys) S2,
    ⟨ds.length, by omega, Nat.zero_le _, F1, S1, [], [], Ext.refl _ _ _, a1.sr.laid hD, .nil, q1⟩, ?_⟩
  rintro i m H2 ⟨rfl, hi, F2, S2, acc, us, x2, sr2, racc, q2⟩
  have sm : Same F1 H2 := x2.same.trans sr2.fro
  obtain ⟨nF, nS, hH⟩ := x2.laid_none a1.sr hD
  by_cases hlt : i < ds.length
  · refine .inr ⟨it.go i H2 sm hlt, fun H => ∃ F S acc us, Ext F1 S1 (upd H1 D (.lst us)) F S H ∧ SR K F S H ∧ RelDs K F acc us ∧ lcN v ws tt te ρ (ds.drop (i + 1)) acc S fun ys S2 => Q' (.lst ys) S2, fun H' n => ⟨ds.length - (i + 1), by omega, rfl, hlt, n⟩, fun x H' y => ?_⟩
    obtain ⟨F3, d, x3, sr3, hd, rd⟩ := it.yld i x H2 H' F2 S2 x2.same sr2 y hlt
    have e : ds.drop i = d :: ds.drop (i + 1) := by
      rw [List.drop_eq_getElem_cons hlt]
      congr 1
      rw [List.getElem?_eq_getElem hlt] at hd
      exact Option.some.inj hd
    rw [e] at q2
    obtain ⟨y0, xs, e2, e3, q2⟩ := q2
    subst e2
    have x13 : Ext F1 S1 (upd H1 D (.lst us)) F3 S2 H' := x2.trans x3
    obtain ⟨b, us2, rfl, t1, t2⟩ := rd.tup_e
    obtain ⟨y1, z1, rfl, ry, rz⟩ := rds2 t2
    obtain ⟨c, zs, rfl, t3, t4⟩ := rz.tup_e
    refine ⟨b, [y1, .ref c], rfl, seqT sr3.fro t1, rfl, y1, [.ref c], rfl, .ref c, [], rfl, c, zs, rfl, seqT sr3.fro t3, by rw [t4.length]; exact e3, gNames_go (by rw [t4.length]; exact e3) ⟨rfl, ?_⟩⟩
    have a3 : At K F0 F3 S2 H' (setD ((unsetD ρ (v :: ws)).set v (some y0)) ws xs) (setV ((wipe σ (v :: ws)).set v (some y1)) ws zs) :=
      ⟨a1.f0.trans ((Ext.laid hD).trans x13), sr3, (((a1.env.mono x13.same).wipe (v :: ws)).set ry v).setD t4⟩
    refine ⟨?_, ?_⟩
    · rw [wipe_setV fun _ h => List.mem_cons_of_mem _ h, wipe_set (List.mem_cons_self ..), wipe_wipe]
    · refine TL.go a3 q2 fun b H4 F4 S4 x4 a4 q4 => ?_
      cases b with
      | false => exact iteF ⟨F4, S4, acc, us, x13.trans x4, a4.sr, RelDs.mono x4.same _ _ (RelDs.mono x3.same _ _ racc), q4⟩
      | true =>
        refine iteT (EL.go a4 q4 fun w H5 F5 S5 yd x5 a5 r5 ⟨hl, q5⟩ => ?_)
        have x15 := (x13.trans x4).trans x5
        obtain ⟨nF5, nS5, hH5⟩ := x15.laid_none a1.sr hD
        have racc5 := RelDs.mono x5.same _ _ (RelDs.mono x4.same _ _ (RelDs.mono x3.same _ _ racc))
        refine ⟨us, hH5, by rw [racc5.length]; exact hl, ?_⟩
        exact ⟨F5, S5, acc ++ [yd], us ++ [w], Ext.reset (K := K) x15, a5.sr.re nF5 nS5, racc5.append (.cons r5 .nil), q5⟩
  · refine .inl ⟨it.stop i H2 sm (by omega), ?_⟩
    rw [List.drop_eq_nil_of_le (by omega)] at q2
    obtain ⟨k1, k2⟩ := sr2.adoptF (ho := .lst us) nF nS
    have k3 := x2.adoptF (ho := .lst us) hD nF
    rw [upd_id hH] at k1 k3
    exact p.of (x1.trans k3) k1 (RelD.lst_i upd_same (RelDs.mono k2 _ _ racc)) q2
section
variable {X : Cx} {F0 : Ent} {elt iter : Expr} {ifs : List Expr} {scope : Scope} {tg : Expr} {own : List (Str × Nat)} {pos : Pos} {ti : TDI} {tt : TDT} {te : TD}
theorem de_lcN (v : Nat) (ws : List Nat) (hvs : own.map (·.2) = v :: ws) (hc : X.calm = true) (hN : X.N.Nodup) (hi : DI X F0 tg iter ti) (ok : BlkOk X.N X.env.scope scope own)
    (hg : ∀ (s : Shared) (H : Hp) (C : Addr) (cl : List (Str × Addr)) (fp : List Addr), PG (X.blk s H scope (compEnvC scope cl C X.env) fp) tg (gTup X.K 2 (gCons (gName v) (gCons (gTup X.K ws.length (gNames ws)) gNil))))
    (ht : ∀ (s : Shared) (H : Hp) (C : Addr) (cl : List (Str × Addr)) (fp : List Addr), DTs (X.blk s H scope (compEnvC scope cl C X.env) fp) F0 ifs tt)
    (he : ∀ (s : Shared) (H : Hp) (C : Addr) (cl : List (Str × Addr)) (fp : List Addr), DE (X.blk s H scope (compEnvC scope cl C X.env) fp) F0 elt te) (hs : ∀ x, foldedSetIterable iter X.env x = pure x := by intro _; rfl) :
    DE X F0 (.ListComp elt [⟨tg, iter, ifs, 0⟩] scope pos) (tdLcN ti v ws tt te) := by
  have h := pe_lc (pos := pos) (own := own) (tt := TL X.K F0 tt) (te := EL X.K F0 te) hc hN hi ok hg ht he hs
  rw [hvs] at h
  exact PE.weak h fun σ H Q h => lcN_go h
theorem ds_setLcN (i : Nat) {y : Str} {py spos : Pos} (v : Nat) (ws : List Nat) (hvs : own.map (·.2) = v :: ws) (hc : X.calm = true) (hN : X.N.Nodup) (hy : X.N[i]? = some y) (hyl : X.env.scope.names.lookup y = some .local)
    (hsw : swapsWith (.ListComp elt [⟨tg, iter, ifs, 0⟩] scope pos) (some (.Name y py)) spos.line X.env = pure true) (hi : DI X F0 tg iter ti) (ok : BlkOk X.N X.env.scope scope own)
    (hg : ∀ (s : Shared) (H : Hp) (C : Addr) (cl : List (Str × Addr)) (fp : List Addr), PG (X.blk s H scope (compEnvC scope cl C X.env) fp) tg (gTup X.K 2 (gCons (gName v) (gCons (gTup X.K ws.length (gNames ws)) gNil))))
    (ht : ∀ (s : Shared) (H : Hp) (C : Addr) (cl : List (Str × Addr)) (fp : List Addr), DTs (X.blk s H scope (compEnvC scope cl C X.env) fp) F0 ifs tt)
    (he : ∀ (s : Shared) (H : Hp) (C : Addr) (cl : List (Str × Addr)) (fp : List Addr), DE (X.blk s H scope (compEnvC scope cl C X.env) fp) F0 elt te) (hs : ∀ x, foldedSetIterable iter X.env x = pure x := by intro _; rfl) :
    DS X F0 (.Assign [.Name y py] (.ListComp elt [⟨tg, iter, ifs, 0⟩] scope pos) spos) (tdAsg (tdLcN ti v ws tt te) (gdName i)) := by
  have h := ps_setLc (i := i) (pos := pos) (own := own) (tt := TL X.K F0 tt) (te := EL X.K F0 te) hc hN hy hyl hsw hi ok hg ht he hs
  rw [hvs] at h
  exact PS.weak h fun D σ H ⟨F, S, ρ, D', a, h, p⟩ => by
    show tLc _ _ _ _ _ σ H _
    exact lcN_go (EL.go a h fun w H1 F1 S1 d x1 a1 r1 q1 => p.1 _ _ _ _ _ x1 a1.sr (a1.env.set r1 i) q1)
/-- a statement that is never reached -/
theorem ds_never {st : Stmt} : DS X F0 st fun _ _ _ => False := PS.weak ps_never fun D σ H ⟨F, S, ρ, D', a, h, p⟩ => h.elim
end
end DL
namespace DLS
open PySem PySem.Spec PyProof.Rows L2 DL
def ItN (w : World) (d : Addr) (o : Obj) (xs : XN) : It :=
  ⟨fun i H => H d = some (.frz o (NObj w d xs)) ∧ i < xs.length, fun i H x H' => H' = H ∧ ∃ k b, xs[i]? = some (k, b, x), fun i H => H d = some (.frz o (NObj w d xs)) ∧ xs.length ≤ i⟩
theorem frzN {P : Program} {w w2 : World} {H : Hp} {h : Heap} {d : Addr} {o : Obj} {xs : XN} (ok : HOk P w2 H h) (e : H d = some (.frz o (NObj w d xs))) :
    (d == sysModules) = false ∧ ∃ (es : Array DictEntry) (ep : Nat) (ys : YN), h.DictRaw d es ep ∧ o.data = .dict es ep ∧ es.size = xs.length ∧ KN xs ys ∧ es.toList = ys.map (entN w) := by
  obtain ⟨h1, h2, _⟩ := (show ObjOk P w2 H h d (.frz o (NObj w d xs)) from ok d _ e)
  obtain ⟨z, y, ys, r, o2, es, ep, e1, e2, e3, e4, e5⟩ := h2
  rw [h1] at e1; cases e1
  refine ⟨y, es, ep, ys, ⟨o, h1, e2, e3⟩, e3, ?_, r, e4⟩
  have a1 := Paired.length r
  have a2 := congrArg List.length e4
  rw [Array.length_toList, List.length_map] at a2
  omega
theorem turn_valsN {P : Program} {w : World} {K : PySem.W.Frag} {tg : Expr} {d : Addr} {o : Obj} {es : Array DictEntry} {ep : Nat} {w2 : World} {xs : XN} (it : Addr) (hod : o.data = .dict es ep) : Turn P w K tg (ItN w2 d o xs) [it] it (fun i h => h.IsValIter it d i es.size ep) where
  mem := by simp
  obj := fun i h st b hb => by
    have e : b = it := by simpa using hb
    subst e
    obtain ⟨oi, e, c, dd⟩ := st
    exact ⟨oi, e, fun v z => by rw [dd] at z; cases z⟩
  keep := fun i h h' st k => st.at fun oi e => k it (by simp) oi e
  item := by
    intro X hP hw hK hc i pins s σ H E I hf st hg
    subst hP hw hK
    obtain ⟨hd, hi⟩ := hg
    obtain ⟨f0, f1, f2, f3, f4, f5⟩ := hf it (by simp)
    obtain ⟨hs, es', ep', ys, hr, hdt, hsz, kn, el⟩ := frzN I.hok hd
    rw [hod] at hdt; cases hdt
    have hil : i < es.size := by omega
    refine wpAny_pyNext_values_item_raw st hr hil fun h' st' sb => ?_
    have I1 : Inv X pins σ H { s with heap := h' } := I.turned (t' := s.toks) (fun b ob hb e => (sb.2 b hb).trans e) f0 f1 f3 f4 f5
    obtain ⟨oi, e, c, dd⟩ := id st'
    obtain ⟨⟨k, b, x⟩, hx⟩ : ∃ p, xs[i]? = some p := ⟨xs[i], List.getElem?_eq_getElem hi⟩
    obtain ⟨y, hy, r1, r2, r3⟩ := paired_get kn hx
    have ev : es[i].val = y.2.2 := by
      have e9 : es.toList[i]? = some es[i] := by rw [Array.getElem?_toList, Array.getElem?_eq_getElem hil]
      rw [el, List.getElem?_map, hy] at e9
      have e10 : entN w2 y = es[i] := Option.some.inj e9
      rw [← e10]
      rfl
    refine ⟨es[i].val, rfl, go_of (s := { s with heap := h' }) e c dd (by decide) ⟨x, H, I1, by rw [ev]; exact r3, ⟨rfl, k, b, hx⟩, st', fun b hb => (hf b hb).1⟩⟩
  done := by
    intro X hP hw hK hc i pins s σ H E I hf st hg
    subst hP hw hK
    obtain ⟨hd, hi⟩ := hg
    obtain ⟨f0, f1, f2, f3, f4, f5⟩ := hf it (by simp)
    obtain ⟨hs, es', ep', ys, hr, hdt, hsz, kn, el⟩ := frzN I.hok hd
    rw [hod] at hdt; cases hdt
    exact wpAny_pyNext_values_end_raw (I.ok.hd hc) st hr (by omega) fun h' eb => ⟨rfl, I.turned (t' := s.toks) (fun b ob hb e => eb b ob hb e) f0 f1 f3 f4 f5⟩
  self := fun A i s Q E st h => wpAny_pyIter_valiter st h
section
variable {X : Cx} {tg e : Expr} {td : TE} {apos cpos : Pos}
def iValsN (td : TE) : TI := fun σ H R => td σ H fun x H1 => ∃ w d o xs, x = .ref d ∧ H1 d = some (.frz o (NObj w d xs)) ∧ R (ItN w d o xs) H1
theorem pi_valsN (he : PE X e td) (hbase : attributeBase e "values" X.env (eval e X.env) = eval e X.env := by rfl) (hline : (apos.endLine == cpos.line) = true := by rfl) : PI X tg (.Call (.Attribute e "values" apos) [] [] cpos) (iValsN td) := by
  refine ⟨fun pins s σ H R I h => ?_⟩
  refine wpAny_Call_method (T := "dict") (id := "dict.values") hbase rfl hline F.plainAttrs_dict F.slot_dict_values F.type_dict_values (thn (he.run pins s σ H _ I h) fun u s1 ⟨x, H1, I1, rx, w, d, o, xs, ex, hd, q⟩ => ?_)
  subst ex
  obtain rfl : u = Value.ref d := rx
  obtain ⟨hs, es, ep, ys, hr, hdt, hsz, kn, el⟩ := frzN I1.hok hd
  refine ⟨hr.typeIs, (fun b e => by cases e; obtain ⟨o', h1, h2, h3⟩ := hr; exact ⟨o', h1, h2.2.1⟩), ?_⟩
  have I2 : Inv X pins σ H1 { s1 with heap := s1.heap.push { cls := .type "dict_values", data := .fields #[.ref d] } } := I1.kept (t' := s1.toks) fun b ob q => Heap.get?_push_of_some _ q
  have hr2 : (s1.heap.push { cls := .type "dict_values", data := .fields #[.ref d] }).DictRaw d es ep := hr.at fun o e => Heap.get?_push_of_some _ e
  have fin : wpAny (model X.prog X.w) X.A (pyIter (.ref s1.heap.objs.size)) (PIE X pins σ tg R) X.xe { s1 with heap := s1.heap.push { cls := .type "dict_values", data := .fields #[.ref d] } } :=
    wpAny_pyIter_values_raw (d := d) ⟨_, Heap.get?_push_size _ rfl, rfl, rfl⟩ hr2 (pi_one (tk := s1.toks) I2 _ (turn_valsN _ hdt) ⟨_, Heap.get?_push_size _ rfl, rfl, rfl⟩ q)
  show wpAny _ _ (callWith cpos (.builtin "dict.values") [.ref d] [] []) _ X.xe s1
  exact method_meetsIn F.slot_dict_values F.entry_dict_values rfl (PySem.evalArgs_none ⟨rfl, hr.typeIs, F.args_dict_values_1 _, _, meets_dict_values_raw d hs, ⟨es, ep, hr⟩, fin⟩)
end
end DLS
namespace DL
open PySem PySem.Spec PyProof.Rows L2
section
variable {X : Cx} {F0 : Ent} {w : World}
def gLenN (w : World) : DCall := fun S ds Q => ∃ a kvs, ds = [.ref a] ∧ S a = some (.dn w a kvs) ∧ Q (.int ((kvs.length : Nat) : Int)) S
theorem oc_lenN (hw : X.w = w) : CallR X (.builtin "len") (CL X.K (gLenN w)) := by
  subst hw
  intro pins s σ H xs us Q I r ⟨F, S, ds, Q', sr, rd, ⟨a, kvs, e1, e2, q⟩, p⟩
  subst e1
  obtain ⟨v, rfl, rv⟩ := rds1 rd
  obtain rfl := rv.ref_e
  rw [Vals.ref1 r]
  obtain ⟨zs, h1, h2⟩ := sr.nat e2
  obtain ⟨z, hd, ys, rel, dd⟩ := nat_of I h1
  have hl : kvs.length = ys.length := (Paired.length h2).trans (Paired.length rel)
  have hz : zs.length = ys.length := Paired.length rel
  refine call_len_dictH hd dd (by rw [← hz]; rw [sizeLine_eq] at z; omega) ?_
  rw [← hl]
  exact ⟨.int ((kvs.length : Nat) : Int), H, I.tok _, ⟨_, rfl⟩, p.of (Ext.refl _ _ _) sr (.int_i _) q⟩
/-- [x[c] for x in self.f.values()] -/
def tdValsI (w : World) (K : PySem.W.Frag) (i : Nat) (f : Str) (v c : Nat) : TD := fun ρ S Q => ∃ self C fs a kvs, ∃ rs : List Int, ρ[i]? = some (some (.ref self)) ∧ S self = some (.ins C fs) ∧ Plain K f C ∧ fs.lookup f = some (.ref a) ∧ S a = some (.dn w a kvs) ∧ v < ρ.length ∧
  rs.length = kvs.length ∧ kvs.length ≤ 100000 ∧ (∀ (j : Nat) (r : Int), rs[j]? = some r → ∃ (x : NestedKey × DL.D × DL.D) (ds : List DL.D), kvs[j]? = some x ∧ x.2.2 = .tup ds ∧ ds[c]? = some (.int r)) ∧ Q (.lst (rs.map DL.D.int)) S
theorem de_valsI {x sx f : Str} {scope : Scope} {xp xp2 sp pc p1 p2 apos cpos pos : Pos} {jc i v c : Nat} (hw : X.w = w) (hc : X.calm = true) (hN : X.N.Nodup) (hself : PE X (.Name sx sp) (tVar i)) (ok : BlkOk X.N X.env.scope scope [(x, v)])
    (hg : ∀ (s : Shared) (H : Hp) (C : Addr) (cl : List (Str × Addr)) (fp : List Addr), PG (X.blk s H scope (compEnvC scope cl C X.env) fp) (.Name x xp2) (gName v))
    (hx : ∀ (s : Shared) (H : Hp) (C : Addr) (cl : List (Str × Addr)) (fp : List Addr), PE (X.blk s H scope (compEnvC scope cl C X.env) fp) (.Name x xp) (tVar v))
    (hb : attributeBase (.Name sx sp) f X.env (eval (.Name sx sp) X.env) = eval (.Name sx sp) X.env := by rfl)
    (hbase : attributeBase (.Attribute (.Name sx sp) f p2) "values" X.env (eval (.Attribute (.Name sx sp) f p2) X.env) = eval (.Attribute (.Name sx sp) f p2) X.env := by rfl) (hline : (apos.endLine == cpos.line) = true := by rfl)
    (hs : ∀ x, foldedSetIterable (.Call (.Attribute (.Attribute (.Name sx sp) f p2) "values" apos) [] [] cpos) X.env x = pure x := by intro _; rfl) :
    DE X F0 (.ListComp (.Subscript (.Name x xp) (.Constant (.int ((c : Nat) : Int)) jc pc) p1) [⟨.Name x xp2, .Call (.Attribute (.Attribute (.Name sx sp) f p2) "values" apos) [] [] cpos, [], 0⟩] scope pos) (tdValsI w X.K i f v c) := by
  subst hw
  refine PE.weak (pe_lock (pe_lc (own := [(x, v)]) (tt := tYes) (te := tOp (rIx X.K) (tVar v) (tC (.int ((c : Nat) : Int)))) hc hN (DLS.pi_valsN (pe_fld hself hb) hbase hline) ok hg (fun _ _ _ _ _ => pts_nil) (fun s H C cl fp => pe_ix ix_seq (hx s H C cl fp) pe_int (fun _ _ => rfl)) hs)) fun σ H Q ⟨F, S, ρ, Q', a, ⟨self, C, fs, d, kvs, rs, h1, h2, pl, h3, h4, hv, hl, hz, hr, q⟩, p⟩ => ?_
  obtain ⟨nF, ho, hH, xs, rfl, rel⟩ := a.sr.obj d _ h4
  obtain ⟨dx, ws, hi, ri⟩ := a.sr.ins h2
  obtain ⟨u0, g1, g2⟩ := ri.lookup h3
  obtain rfl := g2.ref_e
  obtain ⟨vself, g3, g4⟩ := a.env.2 i _ h1
  obtain rfl := g4.ref_e
  refine ⟨d, NObj X.w d xs, hH, True.intro, fun od => ?_⟩
  have nsd : self ≠ d := fun z => by rw [z, hH] at hi; exact nomatch (Option.some.inj hi : HO.ext _ = HO.ins _ _ _)
  have sm : Same F (upd H d (.frz od (NObj X.w d xs))) := fun b u e => by
    rw [upd_ne (fun z => by rw [z, nF] at e; cases e)]
    exact a.sr.fro b u e
  refine ⟨_, g3, self, C, dx, ws, _, rfl, by rw [upd_ne nsd]; exact hi, pl.cl, pl.no, g1, X.w, d, od, xs, rfl, upd_same, fun D hD => ?_⟩
  have nDd : D ≠ d := fun z => by rw [z, upd_same] at hD; cases hD
  have hDH : H D = none := by rw [upd_ne nDd] at hD; exact hD
  have lx : kvs.length = xs.length := Paired.length rel
  refine ⟨fun j m H2 => m = xs.length - j ∧ j ≤ xs.length ∧ H2 = upd (upd H d (.frz od (NObj X.w d xs))) D (.lst ((rs.take j).map V.int)), ⟨xs.length, rfl, Nat.zero_le _, rfl⟩, ?_⟩
  rintro j m H2 ⟨rfl, hj, rfl⟩
  by_cases hlt : j < xs.length
  · refine .inr ⟨⟨by rw [upd_ne (Ne.symm nDd), upd_same], hlt⟩, fun H3 => H3 = upd (upd H d (.frz od (NObj X.w d xs))) D (.lst ((rs.take (j + 1)).map V.int)), fun H' n => ⟨xs.length - (j + 1), by omega, rfl, hlt, n⟩, ?_⟩
    rintro y H' ⟨rfl, k, b, hy⟩
    have hjr : j < rs.length := by omega
    obtain ⟨x3, ds, e1, e2, e3⟩ := hr j rs[j] (List.getElem?_eq_getElem hjr)
    obtain ⟨y2, e4, f1, f2, f3⟩ := paired_get rel e1
    rw [hy] at e4
    cases (Option.some.inj e4)
    have f3' : RelD X.K F (.tup ds) y := by rw [← e2]; exact f3.2
    obtain ⟨b2, vs, rfl, s1, s2⟩ := f3'.tup_e
    obtain ⟨w1, s3, s4⟩ := s2.get e3
    obtain rfl := s4.int_e
    refine ⟨?_, ?_⟩
    · exact (wipe_set (List.mem_singleton.mpr rfl)).trans (wipe_wipe σ [v])
    · unfold tYes
      dsimp only
      rw [if_pos rfl]
      refine ⟨.ref b2, ?_, .inr (.inl ⟨b2, vs, _, _, rfl, rfl, ?_, by rw [atIn]; exact s3, (rs.take j).map V.int, upd_same, ?_, ?_⟩)⟩
      · rw [List.getElem?_set_self]
        show v < (σ.set v none).length
        rw [List.length_set, ← a.env.1]
        exact hv
      · refine seqT (fun b u e => ?_) s1
        rw [upd_ne (fun z => by rw [← z] at hD; rw [sm b u e] at hD; cases hD)]
        exact sm b u e
      · rw [List.length_map, List.length_take]
        exact Nat.lt_of_lt_of_le (show min j rs.length < 100001 by omega) (sz5 (by decide))
      · funext c2
        by_cases hc2 : c2 = D
        · rw [hc2, upd_same, upd_same, ← List.map_singleton (f := V.int), ← List.map_append, List.take_succ, List.getElem?_eq_getElem hjr]
          rfl
        · rw [upd_ne hc2, upd_ne hc2, upd_ne hc2]
  · refine .inl ⟨⟨by rw [upd_ne (Ne.symm nDd), upd_same], by omega⟩, by rw [upd_ne (Ne.symm nDd), upd_same], ?_⟩
    have eH : upd (upd (upd H d (.frz od (NObj X.w d xs))) D (.lst ((rs.take j).map V.int))) d (NObj X.w d xs) = upd H D (.lst (rs.map V.int)) := by
      rw [List.take_of_length_le (by omega)]
      funext c2
      by_cases hc2 : c2 = d
      · rw [hc2, upd_same, upd_ne (Ne.symm nDd), hH]
      · rw [upd_ne hc2]
        by_cases hc3 : c2 = D
        · rw [hc3, upd_same, upd_same]
        · rw [upd_ne hc3, upd_ne hc3, upd_ne hc2]
    rw [eH]
    refine p.of (a.sr.ext_frz hDH) (a.sr.frz hDH) (.lst_i upd_same (.ints rs)) q
end
end DL
namespace K07
open PySem PySem.Spec L2 DL
def top (i : Nat) : Stmt := PySem.Challenge.pw_chiplore_k07_whole_facts_of_designs.main.body.getD i (.Pass ⟨0, 0, 0, 0⟩)
abbrev st_net_rules : Stmt := top 5
abbrev N_net_rules : List Str := ["net", "found", "start", "place", "gate", "side", "literal", "fact", "one", "other", "third"]
theorem sc_net_rules : FnScope N_net_rules ["net"] (defScope st_net_rules) := ⟨rfl, rfl, rfl, by decide +kernel, rfl, by decide +kernel, by decide +kernel⟩
theorem nd_net_rules : N_net_rules.Nodup := sc_net_rules.nd
abbrev st_is_name : Stmt := top 9
abbrev N_is_name : List Str := ["part"]
theorem sc_is_name : FnScope N_is_name ["part"] (defScope st_is_name) := ⟨rfl, rfl, rfl, by decide +kernel, rfl, by decide +kernel, by decide +kernel⟩
theorem nd_is_name : N_is_name.Nodup := sc_is_name.nd
abbrev st_names_in : Stmt := top 10
abbrev N_names_in : List Str := ["atoms", "_", "parts", "part"]
theorem sc_names_in : FnScope N_names_in ["atoms"] (defScope st_names_in) := ⟨rfl, rfl, rfl, by decide +kernel, rfl, by decide +kernel, by decide +kernel⟩
theorem nd_names_in : N_names_in.Nodup := sc_names_in.nd
abbrev st_filled : Stmt := top 11
abbrev N_filled : List Str := ["atom", "known", "word", "parts", "part"]
theorem sc_filled : FnScope N_filled ["atom", "known"] (defScope st_filled) := ⟨rfl, rfl, rfl, by decide +kernel, rfl, by decide +kernel, by decide +kernel⟩
theorem nd_filled : N_filled.Nodup := sc_filled.nd
abbrev st_matched : Stmt := top 12
abbrev N_matched : List Str := ["atom", "fact", "known", "found", "part", "thing"]
theorem sc_matched : FnScope N_matched ["atom", "fact", "known"] (defScope st_matched) := ⟨rfl, rfl, rfl, by decide +kernel, rfl, by decide +kernel, by decide +kernel⟩
theorem nd_matched : N_matched.Nodup := sc_matched.nd
abbrev st_layers : Stmt := top 13
abbrev N_layers : List Str := ["rules", "words", "head", "body", "atom", "_", "found", "word", "turned", "flag", "low"]
theorem sc_layers : FnScope N_layers ["rules"] (defScope st_layers) := ⟨rfl, rfl, rfl, by decide +kernel, rfl, by decide +kernel, by decide +kernel⟩
theorem nd_layers : N_layers.Nodup := sc_layers.nd
abbrev st_check_rules : Stmt := top 14
abbrev N_check_rules : List Str := ["rules", "head", "body", "bound", "flag", "atom", "name"]
theorem sc_check_rules : FnScope N_check_rules ["rules"] (defScope st_check_rules) := ⟨rfl, rfl, rfl, by decide +kernel, rfl, by decide +kernel, by decide +kernel⟩
theorem nd_check_rules : N_check_rules.Nodup := sc_check_rules.nd
abbrev st_Closing___init__ : Stmt := inClass (top 15) 0
abbrev N_Closing___init__ : List Str := ["self", "rules"]
theorem sc_Closing___init__ : FnScope N_Closing___init__ ["self", "rules"] (defScope st_Closing___init__) := ⟨rfl, rfl, rfl, by decide +kernel, rfl, by decide +kernel, by decide +kernel⟩
theorem nd_Closing___init__ : N_Closing___init__.Nodup := sc_Closing___init__.nd
abbrev st_Closing_ways : Stmt := inClass (top 15) 1
abbrev N_Closing_ways : List Str := ["self", "body", "known", "found", "needed", "place", "flag", "_", "atom", "rest", "fact", "more"]
theorem sc_Closing_ways : FnScope N_Closing_ways ["self", "body", "known"] (defScope st_Closing_ways) := ⟨rfl, rfl, rfl, by decide +kernel, rfl, by decide +kernel, by decide +kernel⟩
theorem nd_Closing_ways : N_Closing_ways.Nodup := sc_Closing_ways.nd
abbrev st_Closing_close : Stmt := inClass (top 15) 2
abbrev N_Closing_close : List Str := ["self", "layer", "names", "name", "grown", "fresh", "head", "body", "known", "fact", "rank", "told"]
theorem sc_Closing_close : FnScope N_Closing_close ["self"] (defScope st_Closing_close) := ⟨rfl, rfl, rfl, by decide +kernel, rfl, by decide +kernel, by decide +kernel⟩
theorem nd_Closing_close : N_Closing_close.Nodup := sc_Closing_close.nd
abbrev st_world : Stmt := top 16
abbrev N_world : List Str := ["rules", "found", "fact"]
theorem sc_world : FnScope N_world ["rules"] (defScope st_world) := ⟨rfl, rfl, rfl, by decide +kernel, rfl, by decide +kernel, by decide +kernel⟩
theorem nd_world : N_world.Nodup := sc_world.nd
abbrev st_fillings : Stmt := top 17
abbrev N_fillings : List Str := ["told", "atom", "found", "entry", "known"]
theorem sc_fillings : FnScope N_fillings ["told", "atom"] (defScope st_fillings) := ⟨rfl, rfl, rfl, by decide +kernel, rfl, by decide +kernel, by decide +kernel⟩
theorem nd_fillings : N_fillings.Nodup := sc_fillings.nd
abbrev st__law_next : Stmt := top 19
abbrev N__law_next : List Str := ["state", "limit", "cell", "value"]
theorem sc__law_next : FnScope N__law_next ["state", "limit"] (defScope st__law_next) := ⟨rfl, rfl, rfl, by decide +kernel, rfl, by decide +kernel, by decide +kernel⟩
theorem nd__law_next : N__law_next.Nodup := sc__law_next.nd
abbrev st__law_same : Stmt := top 20
abbrev N__law_same : List Str := ["actual", "expected", "k"]
theorem sc__law_same : FnScope N__law_same ["actual", "expected"] (defScope st__law_same) := ⟨rfl, rfl, rfl, by decide +kernel, rfl, by decide +kernel, by decide +kernel⟩
theorem nd__law_same : N__law_same.Nodup := sc__law_same.nd
abbrev st__law_turned : Stmt := top 21
abbrev N__law_turned : List Str := ["literal"]
theorem sc__law_turned : FnScope N__law_turned ["literal"] (defScope st__law_turned) := ⟨rfl, rfl, rfl, by decide +kernel, rfl, by decide +kernel, by decide +kernel⟩
theorem nd__law_turned : N__law_turned.Nodup := sc__law_turned.nd
abbrev st__law_conj : Stmt := top 22
abbrev N__law_conj : List Str := ["gates", "start", "one", "two", "low", "high"]
theorem sc__law_conj : FnScope N__law_conj ["gates", "start", "one", "two"] (defScope st__law_conj) := ⟨rfl, rfl, rfl, by decide +kernel, rfl, by decide +kernel, by decide +kernel⟩
theorem nd__law_conj : N__law_conj.Nodup := sc__law_conj.nd
abbrev st__law_step : Stmt := top 23
abbrev N__law_step : List Str := ["gates", "start", "word", "one", "two", "other", "both", "left", "right"]
theorem sc__law_step : FnScope N__law_step ["gates", "start", "word", "one", "two", "other"] (defScope st__law_step) := ⟨rfl, rfl, rfl, by decide +kernel, rfl, by decide +kernel, by decide +kernel⟩
theorem nd__law_step : N__law_step.Nodup := sc__law_step.nd
abbrev st__law_trimmed : Stmt := top 24
abbrev N__law_trimmed : List Str := ["start", "gates", "ends", "used", "literal", "k", "numbers", "node", "kept"]
theorem sc__law_trimmed : FnScope N__law_trimmed ["start", "gates", "ends"] (defScope st__law_trimmed) := ⟨rfl, rfl, rfl, by decide +kernel, rfl, by decide +kernel, by decide +kernel⟩
theorem nd__law_trimmed : N__law_trimmed.Nodup := sc__law_trimmed.nd
abbrev st__law_design : Stmt := top 25
abbrev N__law_design : List Str := ["state", "inputs", "registers", "most", "steps", "sources", "k", "word", "first", "second", "ends", "pick", "firsts"]
theorem sc__law_design : FnScope N__law_design ["state", "inputs", "registers", "most"] (defScope st__law_design) := ⟨rfl, rfl, rfl, by decide +kernel, rfl, by decide +kernel, by decide +kernel⟩
theorem nd__law_design : N__law_design.Nodup := sc__law_design.nd
abbrev st__law_net : Stmt := top 26
abbrev N__law_net : List Str := ["design", "other", "inputs", "firsts", "steps", "ends", "start", "gates", "signals", "k", "word", "one", "two", "literals", "place", "turn", "told", "kept", "count", "names", "registers", "outputs"]
theorem sc__law_net : FnScope N__law_net ["design", "other"] (defScope st__law_net) := ⟨rfl, rfl, rfl, by decide +kernel, rfl, by decide +kernel, by decide +kernel⟩
theorem nd__law_net : N__law_net.Nodup := sc__law_net.nd
abbrev st__law_values : Stmt := top 27
abbrev N__law_values : List Str := ["net", "row", "stuck", "found", "node", "one", "two"]
theorem sc__law_values : FnScope N__law_values ["net", "row", "stuck"] (defScope st__law_values) := ⟨rfl, rfl, rfl, by decide +kernel, rfl, by decide +kernel, by decide +kernel⟩
theorem nd__law_values : N__law_values.Nodup := sc__law_values.nd
abbrev st__law_clock : Stmt := top 28
abbrev N__law_clock : List Str := ["net", "state", "inputs", "stuck", "found", "outputs", "name", "literal"]
theorem sc__law_clock : FnScope N__law_clock ["net", "state", "inputs", "stuck"] (defScope st__law_clock) := ⟨rfl, rfl, rfl, by decide +kernel, rfl, by decide +kernel, by decide +kernel⟩
theorem nd__law_clock : N__law_clock.Nodup := sc__law_clock.nd
abbrev st__law_all_rows : Stmt := top 29
abbrev N__law_all_rows : List Str := ["count", "found", "k", "longer", "row"]
theorem sc__law_all_rows : FnScope N__law_all_rows ["count"] (defScope st__law_all_rows) := ⟨rfl, rfl, rfl, by decide +kernel, rfl, by decide +kernel, by decide +kernel⟩
theorem nd__law_all_rows : N__law_all_rows.Nodup := sc__law_all_rows.nd
abbrev st__law_pairs : Stmt := top 30
abbrev N__law_pairs : List Str := ["told", "word", "found", "one"]
theorem sc__law_pairs : FnScope N__law_pairs ["told", "word"] (defScope st__law_pairs) := ⟨rfl, rfl, rfl, by decide +kernel, rfl, by decide +kernel, by decide +kernel⟩
theorem nd__law_pairs : N__law_pairs.Nodup := sc__law_pairs.nd
abbrev st__law_holds : Stmt := top 31
abbrev N__law_holds : List Str := ["state", "net", "told", "leads", "turns", "pair", "start", "k", "literal", "count", "register", "place", "row", "other", "nexts", "values"]
theorem sc__law_holds : FnScope N__law_holds ["state"] (defScope st__law_holds) := ⟨rfl, rfl, rfl, by decide +kernel, rfl, by decide +kernel, by decide +kernel⟩
theorem nd__law_holds : N__law_holds.Nodup := sc__law_holds.nd
abbrev st_law : Stmt := top 32
abbrev N_law : List Str := ["script"]
theorem sc_law : FnScope N_law ["script"] (defScope st_law) := ⟨rfl, rfl, rfl, by decide +kernel, rfl, by decide +kernel, by decide +kernel⟩
theorem nd_law : N_law.Nodup := sc_law.nd
structure Zf (P : Program) (w : World) (K : PySem.W.Frag) (mg : Str → Option Value) (base : Heap) : Prop where
  f_bool : mg "bool" = none
  f_dict : mg "dict" = none
  f_int : mg "int" = none
  f_isinstance : mg "isinstance" = none
  f_len : mg "len" = none
  f_list : mg "list" = none
  f_max : mg "max" = none
  f_min : mg "min" = none
  f_range : mg "range" = none
  f_sorted : mg "sorted" = none
  f_str : mg "str" = none
  f_tuple : mg "tuple" = none
  f_zip : mg "zip" = none
  f_set : mg "set" = none
  f_enumerate : mg "enumerate" = none
  g_net_rules : mg "net_rules" = some (.ref (He.ga K "net_rules"))
  F_net_rules : ∃ fd, Fun K "net_rules" "net_rules" st_net_rules (He.ga K "net_rules") fd ∧ Binds K fd ["net"] []
  g_is_name : mg "is_name" = some (.ref (He.ga K "is_name"))
  F_is_name : ∃ fd, Fun K "is_name" "is_name" st_is_name (He.ga K "is_name") fd ∧ Binds K fd ["part"] []
  g_names_in : mg "names_in" = some (.ref (He.ga K "names_in"))
  F_names_in : ∃ fd, Fun K "names_in" "names_in" st_names_in (He.ga K "names_in") fd ∧ Binds K fd ["atoms"] []
  g_filled : mg "filled" = some (.ref (He.ga K "filled"))
  F_filled : ∃ fd, Fun K "filled" "filled" st_filled (He.ga K "filled") fd ∧ Binds K fd ["atom", "known"] []
  g_matched : mg "matched" = some (.ref (He.ga K "matched"))
  F_matched : ∃ fd, Fun K "matched" "matched" st_matched (He.ga K "matched") fd ∧ Binds K fd ["atom", "fact", "known"] []
  g_layers : mg "layers" = some (.ref (He.ga K "layers"))
  F_layers : ∃ fd, Fun K "layers" "layers" st_layers (He.ga K "layers") fd ∧ Binds K fd ["rules"] []
  g_check_rules : mg "check_rules" = some (.ref (He.ga K "check_rules"))
  F_check_rules : ∃ fd, Fun K "check_rules" "check_rules" st_check_rules (He.ga K "check_rules") fd ∧ Binds K fd ["rules"] []
  F_Closing___init__ : ∃ fd, Fun K "__init__" "Closing.__init__" st_Closing___init__ (He.ma K (He.ga K "Closing") "__init__") fd ∧ Binds K fd ["self", "rules"] []
  F_Closing_ways : ∃ fd, Fun K "ways" "Closing.ways" st_Closing_ways (He.ma K (He.ga K "Closing") "ways") fd ∧ Binds K fd ["self", "body", "known"] []
  F_Closing_close : ∃ fd, Fun K "close" "Closing.close" st_Closing_close (He.ma K (He.ga K "Closing") "close") fd ∧ Binds K fd ["self"] []
  g_world : mg "world" = some (.ref (He.ga K "world"))
  F_world : ∃ fd, Fun K "world" "world" st_world (He.ga K "world") fd ∧ Binds K fd ["rules"] []
  g_fillings : mg "fillings" = some (.ref (He.ga K "fillings"))
  F_fillings : ∃ fd, Fun K "fillings" "fillings" st_fillings (He.ga K "fillings") fd ∧ Binds K fd ["told", "atom"] []
  g__law_next : mg "_law_next" = some (.ref (He.ga K "_law_next"))
  F__law_next : ∃ fd, Fun K "_law_next" "_law_next" st__law_next (He.ga K "_law_next") fd ∧ Binds K fd ["state", "limit"] []
  g__law_same : mg "_law_same" = some (.ref (He.ga K "_law_same"))
  F__law_same : ∃ fd, Fun K "_law_same" "_law_same" st__law_same (He.ga K "_law_same") fd ∧ Binds K fd ["actual", "expected"] []
  g__law_turned : mg "_law_turned" = some (.ref (He.ga K "_law_turned"))
  F__law_turned : ∃ fd, Fun K "_law_turned" "_law_turned" st__law_turned (He.ga K "_law_turned") fd ∧ Binds K fd ["literal"] []
  g__law_conj : mg "_law_conj" = some (.ref (He.ga K "_law_conj"))
  F__law_conj : ∃ fd, Fun K "_law_conj" "_law_conj" st__law_conj (He.ga K "_law_conj") fd ∧ Binds K fd ["gates", "start", "one", "two"] []
  g__law_step : mg "_law_step" = some (.ref (He.ga K "_law_step"))
  F__law_step : ∃ fd, Fun K "_law_step" "_law_step" st__law_step (He.ga K "_law_step") fd ∧ Binds K fd ["gates", "start", "word", "one", "two", "other"] []
  g__law_trimmed : mg "_law_trimmed" = some (.ref (He.ga K "_law_trimmed"))
  F__law_trimmed : ∃ fd, Fun K "_law_trimmed" "_law_trimmed" st__law_trimmed (He.ga K "_law_trimmed") fd ∧ Binds K fd ["start", "gates", "ends"] []
  g__law_design : mg "_law_design" = some (.ref (He.ga K "_law_design"))
  F__law_design : ∃ fd, Fun K "_law_design" "_law_design" st__law_design (He.ga K "_law_design") fd ∧ Binds K fd ["state", "inputs", "registers", "most"] []
  g__law_net : mg "_law_net" = some (.ref (He.ga K "_law_net"))
  F__law_net : ∃ fd, Fun K "_law_net" "_law_net" st__law_net (He.ga K "_law_net") fd ∧ Binds K fd ["design", "other"] []
  g__law_values : mg "_law_values" = some (.ref (He.ga K "_law_values"))
  F__law_values : ∃ fd, Fun K "_law_values" "_law_values" st__law_values (He.ga K "_law_values") fd ∧ Binds K fd ["net", "row", "stuck"] []
  g__law_clock : mg "_law_clock" = some (.ref (He.ga K "_law_clock"))
  F__law_clock : ∃ fd, Fun K "_law_clock" "_law_clock" st__law_clock (He.ga K "_law_clock") fd ∧ Binds K fd ["net", "state", "inputs", "stuck"] []
  g__law_all_rows : mg "_law_all_rows" = some (.ref (He.ga K "_law_all_rows"))
  F__law_all_rows : ∃ fd, Fun K "_law_all_rows" "_law_all_rows" st__law_all_rows (He.ga K "_law_all_rows") fd ∧ Binds K fd ["count"] []
  g__law_pairs : mg "_law_pairs" = some (.ref (He.ga K "_law_pairs"))
  F__law_pairs : ∃ fd, Fun K "_law_pairs" "_law_pairs" st__law_pairs (He.ga K "_law_pairs") fd ∧ Binds K fd ["told", "word"] []
  g__law_holds : mg "_law_holds" = some (.ref (He.ga K "_law_holds"))
  F__law_holds : ∃ fd, Fun K "_law_holds" "_law_holds" st__law_holds (He.ga K "_law_holds") fd ∧ Binds K fd ["state"] []
  g_law : mg "law" = some (.ref (He.ga K "law"))
  F_law : ∃ fd, Fun K "law" "law" st_law (He.ga K "law") fd ∧ Binds K fd ["script"] []
  g_ChiploreError : mg "ChiploreError" = some (.ref (He.ga K "ChiploreError"))
  g_TooWide : mg "TooWide" = some (.ref (He.ga K "TooWide"))
  g_UnfitRules : mg "UnfitRules" = some (.ref (He.ga K "UnfitRules"))
  g_Closing : mg "Closing" = some (.ref (He.ga K "Closing"))
  x_TooWide : RX0 K (He.ga K "TooWide")
  e_TooWide : PySem.W.exmOne K (.ref (He.ga K "TooWide")) (.ref (He.ga K "TooWide")) = some true
  c_Closing : Cls K (He.ga K "Closing")
  n_Closing_rules : NoAttr K (He.ga K "Closing") "rules"
  n_Closing_found : NoAttr K (He.ga K "Closing") "found"
  n_Closing_tries : NoAttr K (He.ga K "Closing") "tries"
  n_Closing_layers : NoAttr K (He.ga K "Closing") "layers"
  m_Closing_ways : Meth K (He.ga K "Closing") "ways" (He.ma K (He.ga K "Closing") "ways")
  m_Closing_close : Meth K (He.ga K "Closing") "close" (He.ma K (He.ga K "Closing") "close")
  k_Closing : Mk K (He.ga K "Closing") (He.ma K (He.ga K "Closing") "__init__")
  i_MOST_FACTS : ∃ tk, mg "MOST_FACTS" = some (.int 2000 tk)
  i_MOST_TRIES : ∃ tk, mg "MOST_TRIES" = some (.int 100000 tk)
end K07
namespace K07
open PySem PySem.Spec L2 DL
theorem icO (a : Nat) : (1 : Int) + (a : Int) = ((1 + a : Nat) : Int) := rfl
theorem ic1 (a : Nat) : decide ((a : Int) = 1) = (a == 1) := by
  by_cases h : a = 1
  · subst h; rfl
  · rw [decide_eq_false (by omega)]
    exact (beq_eq_false_iff_ne.mpr h).symm
theorem isN0 : DL.isNon D.non = true := rfl
theorem ixN_2 {α : Type} {a b c d : α} : ixN [a, b, c, d].length 2 = some 2 := rfl
theorem ixN_3 {α : Type} {a b c d : α} : ixN [a, b, c, d].length 3 = some 3 := rfl
theorem gEq_ss {f : Bool → Bool} {S : Store} {x y : Tx} {Q : D → Store → Prop} : gEq f S (.str x) (.str y) Q = Q (.bl (f (decide (x = y)))) S := rfl
theorem gEq_ns {S : Store} {x y : Int} {Q : D → Store → Prop} : gEq not S (.int x) (.int y) Q = Q (.bl (!(decide (x = y)))) S := rfl
theorem gEq_ii {f : Bool → Bool} {S : Store} {x y : Int} {Q : D → Store → Prop} : gEq f S (.int x) (.int y) Q = Q (.bl (f (decide (x = y)))) S := rfl
local macro_rules | `(tactic| walk_at "nd") => `(tactic| simp only [icO, isN0, gStr, tdiE, tdiZT, gSortND, gSortL, gSortDX, tdListVals, tdSortItems, tdiVals, gDictC, tdLck, tdSetd, tdExt, gIntT, tdTruT, tdRaise0, gTupP, tdPt, gDictT, tdLc2T, tdLcN, gLenN, tdValsI, tdSortSet, gCatB, gEq_bb, tdLcB, tdDNew, tdNNew, tdNGet, tdNPut, tdFGet, tdiF, tdDctF, tdDc, tdDcN, tdTru, tdDAugG, tdDictZ, tdCallV, tdLc2, ln_4, ln_5, ln_6, fmod_2, fdiv_2, gAddT, tdIdx, gdUnl, tdiD, gSortI, gMin2, gMax2, gTuple, gDictP, tdLcT, lcT, setD, unsetD, tdKGet, tdKGet2, tdGet2, tdPop, tdSeq, tdAsg, tdV, gdName, tdAnd, tdOr, tdNot, tdB, tdOp, tdCB, tdCons, tdNil, tdC, tdAug, tdSl, tdP, tdRet, tdTup, tdIf, tdIfS, gOrd, gI0, gI, gLen, gIx, gAdd, gInt, vw, ixP, gSl, tdDrop, tdRetN, tdNext, gIn_sc, gIn_ts, gIn_ls, gIn_t2, gIn_l2, gIn_l4, tdApp, sl_0, sl_1, sl_2, sl_3, sl_4, sl_5, ff, tt', true_and, id,
  eqS, tdFor, tdiT, tdiL, tdiR, tdXp, gList, gEq_ns, tdJoin, gJoin, vwS, gMul, gMod, gDiv, gPow, gI, tdAugS, gdSub, gSet, ixN_2, ixN_3, atI_3, atI_4, gEq_ss, gEq_ii, tdDict, tdPairs, tdNeg, Option.isNone_none, Option.isNone_some, gIsi, tdGet, tdDPut, tdDAug, tdIsN, tdNotN, DO.dic.injEq, Option.isNone_none, Option.isNone_some, gIn_l2, gIn_t2, Option.getD_some, tdLc, gMax, tdNoP, forR, tdRaise, tdCall, tdNotV, tdAndV, tdOrV, tdBox, tdZ, gdTup, gdCons, gdNil, tdBreak, tdCont, tdYes, icast, icast1, icast2, icast3, tdLst, gIn_l4, icastL, icastE, icastZ, ln_0, ln_1, ln_2, ln_3,
  List.getElem?_cons_zero, List.getElem?_cons_succ, List.set_cons_zero, List.set_cons_succ, Option.some.injEq, exists_eq_left', exists_eq_left, D.bl.injEq, decide_eq_true_eq,
  tdFldC, tdMeth, tdMake, tdPutF, tdAugF, D.ref.injEq, DO.ins.injEq, and_assoc, DL.gSub, D.int.injEq, D.str.injEq, sup_same, eq_self, not_true_eq_false, not_false_eq_true, Bool.false_eq_true, Bool.not_eq_true, decide_not, atIn, atI_0, atI_1, atI_2, List.getElem?_map, Option.map_some, Option.map_none, decide_true, decide_false, Bool.not_true, Bool.not_false, if_true, if_false, lm_0, lm_1, lm_2, List.length_map, exists_and_left, *])
variable {P : Program} {w : World} {K : PySem.W.Frag} {mg : Str → Option Value} {base : Heap}
/-- the drawer's state -/
def stL (ns : List Int) (p : Nat) (big seed : Int) : List D := [.lst (ns.map D.int), .int (p : Nat), .int big, .int seed]
abbrev stO (ns : List Int) (p : Nat) (big seed : Int) : DO := .lst (stL ns p big seed)
structure StOk (big seed : Int) : Prop where
  b : 0 ≤ big
  s0 : 0 ≤ seed
  s1 : seed < 2147483647
/-- a number below lim is drawn -/
def m_law_next : M := fun ds S Q E => ∃ a ns p big seed, ∃ lim : Nat, ds = [.ref a, .int (lim : Nat)] ∧ S a = some (stO ns p big seed) ∧ StOk big seed ∧ 0 < lim ∧ lim ≤ 100000 ∧
  ∀ (r p' : Nat) (big' seed' : Int), r < lim → StOk big' seed' → Q (.int (r : Nat)) (sup S a (stO ns p' big' seed'))
theorem d__law_next (Z : Zf P w K mg base) : Ca P w K mg base 1 "_law_next" ["state", "limit"] m_law_next := by
  obtain ⟨fd, F, hb⟩ := Z.F__law_next
  refine ⟨_, fd, df_of (k := 0) F sc__law_next (fun cdv A outer s H E F0 E' B => (dss_cons (ds_if (PW.pt (dw_and (dt_cmp (od_eq B.units) (de_ix (dv 0) de_int) de_int rfl) (dw_and1 (dt_cmp (od_ord op_lt) (de_ix (dv 0) de_int) (de_cB oc_len rfl Z.f_len bb_len (da_cons (de_ix (dv 0) de_int) da_nil)) rfl)))) (dss_cons (ds_set 2 nd__law_next (de_ix (de_ix (dv 0) de_int) (de_ix (dv 0) de_int)))
    (dss_cons (ds_augS (dv 0) de_int de_int ip_add)
    (dss_one (ds_if (dt_cmp (od_ord op_ge) (dv 2) (de_op od_pow de_int de_int) rfl) (dss_one (ds_asg (dv 2) (dg_sub (dv 0) de_int))) (dss_one (ds_asg (de_op od_mod (de_cT oc_int rfl Z.f_int bb_int (da_cons (de_op od_addT (de_op od_addT (de_op od_mul (de_ix (dv 0) de_int) de_int) (de_op od_mod (de_cT oc_int rfl Z.f_int bb_int (da_cons (dv 2) da_nil)) de_int)) de_int) da_nil)) de_int) (dg_sub (dv 0) de_int))))))) dss_nil)
    (dss_cons (ds_if (dt_cmp (od_ord op_gt) (de_ix (dv 0) de_int) de_int rfl) (dss_cons (ds_set 3 nd__law_next (de_op od_mod (de_cT oc_int rfl Z.f_int bb_int (da_cons (de_ix (dv 0) de_int) da_nil)) (dv 1)))
    (dss_cons (ds_asg (de_op od_div (de_ix (dv 0) de_int) (dv 1)) (dg_sub (dv 0) de_int))
    (dss_one (ds_ret (dv 3))))) dss_nil)
    (dss_cons (ds_asg (de_op od_mod (de_cT oc_int rfl Z.f_int bb_int (da_cons (de_op od_addT (de_op od_mul (de_ix (dv 0) de_int) de_int) de_int) da_nil)) de_int) (dg_sub (dv 0) de_int))
    (dss_one (ds_ret (de_op od_mod (de_cT oc_int rfl Z.f_int bb_int (da_cons (de_op od_div (de_ix (dv 0) de_int) de_int) da_nil)) (dv 1)))))))) ?_, Z.g__law_next, F.kp, hb⟩
  rintro ds S Q E hl ⟨a, ns, p, big, seed, lim, rfl, ho, hst, h0, h1, hq⟩
  rw [show startD N__law_next [.ref a, .int (lim : Nat)] = [some (.ref a), some (.int (lim : Nat)), none, none] from rfl]
  clear hl
  refine seq_cut (fun ρ S' => ∃ p' big' seed' x, ρ = [some (.ref a), some (.int (lim : Nat)), x, none] ∧ S' = sup S a (stO ns p' big' seed') ∧ StOk big' seed') (fun Rest hR => ?_) ?_
  · have ho' := ho
    unfold stO stL at ho
    walk_at "nd"
    have out : Rest [some (.ref a), some (.int (lim : Nat)), none, none] S := hR _ _ ⟨p, big, seed, none, rfl, (sup_id ho').symm, hst⟩
    by_cases hb0 : big = 0
    · rw [if_pos hb0]
      by_cases hp : p < ns.length
      · rw [if_pos hp]
        rw [List.getElem?_eq_getElem hp]
        refine ⟨_, rfl, by omega, _, rfl, (p : Int), rfl, _, rfl, show 1 < 4 by omega, ⟨by decide, by decide, by decide⟩, ?_⟩
        show if (10 ^ Int.toNat 18 : Int) ≤ ns[p] then _ else _
        by_cases hc : (10 ^ Int.toNat 18 : Int) ≤ ns[p]
        · rw [if_pos hc]
          refine ⟨_, rfl, 2, rfl, ?_⟩
          rw [sup_sup]
          have h10 : (0 : Int) ≤ 10 ^ Int.toNat 18 := by decide
          exact hR _ _ ⟨p + 1, ns[p], seed, _, rfl, rfl, ⟨by omega, hst.s0, hst.s1⟩⟩
        · rw [if_neg hc]
          refine ⟨_, rfl, ⟨.inr (by decide), ?_⟩⟩
          show (2147483647 : Int) ≠ 0 ∧ (2147483647 : Int) ≠ 0 ∧ _
          refine ⟨by decide, by decide, _, rfl, 3, rfl, ?_⟩
          rw [sup_sup]
          exact hR _ _ ⟨p + 1, big, _, _, rfl, rfl, ⟨hst.b, Int.fmod_nonneg_of_pos _ (by decide), Int.fmod_lt_of_pos _ (by decide)⟩⟩
      · rw [if_neg hp]
        exact out
    · rw [if_neg hb0]
      exact out
  · rintro ρ S' ⟨p', big', seed', x, rfl, rfl, hst'⟩
    clear ho hst
    have hlim : (lim : Int) ≠ 0 := by omega
    have hlp : (0 : Int) < (lim : Int) := by omega
    refine seq_cut (fun ρ S' => ρ = [some (.ref a), some (.int (lim : Nat)), x, none] ∧ S' = sup S a (stO ns p' big' seed')) (fun Rest hR => ?_) ?_
    · have ho : sup S a (stO ns p' big' seed') a = some (stO ns p' big' seed') := sup_same
      have out : Rest [some (.ref a), some (.int (lim : Nat)), x, none] (sup S a (stO ns p' big' seed')) := hR _ _ ⟨rfl, rfl⟩
      clear hR
      unfold stO stL at ho
      walk_at "nd"
      refine ⟨_, rfl, ?_⟩
      show if (0 : Int) < big' then _ else _
      by_cases hb : (0 : Int) < big'
      · rw [if_pos hb]
        refine ⟨_, rfl, hlim, _, rfl, ⟨hlim, by omega⟩, _, rfl, 2, rfl, ?_⟩
        rw [sup_sup]
        obtain ⟨r, hr⟩ := Int.eq_ofNat_of_zero_le (Int.fmod_nonneg_of_pos big' hlp)
        have h2 := Int.fmod_lt_of_pos big' hlp
        rw [hr]
        exact fini (hq r p' _ seed' (by omega) ⟨Int.fdiv_nonneg (by omega) (by omega), hst'.s0, hst'.s1⟩)
      · rw [if_neg hb]
        first
          | exact True.intro
          | exact out
    · rintro ρ S' ⟨rfl, rfl⟩
      have ho : sup S a (stO ns p' big' seed') a = some (stO ns p' big' seed') := sup_same
      unfold stO stL at ho
      walk_at "nd"
      refine ⟨_, rfl, ⟨.inr (by decide), by decide, _, rfl, 3, rfl, _, rfl, ⟨⟨by decide, by decide⟩, hlim, ?_⟩⟩⟩
      rw [sup_sup]
      obtain ⟨r, hr⟩ := Int.eq_ofNat_of_zero_le (Int.fmod_nonneg_of_pos ((((seed' * 69621 + 12345).fmod 2147483647) : Int).fdiv 7) hlp)
      have h2 := Int.fmod_lt_of_pos ((((seed' * 69621 + 12345).fmod 2147483647) : Int).fdiv 7) hlp
      rw [hr]
      exact fini (hq r p' big' _ (by omega) ⟨hst'.b, Int.fmod_nonneg_of_pos _ (by decide), Int.fmod_lt_of_pos _ (by decide)⟩)
end K07
namespace K07
open PySem PySem.Spec L2 DL
local macro_rules | `(tactic| walk_at "nd") => `(tactic| simp only [icO, isN0, gStr, tdiE, tdiZT, gSortND, gSortL, gSortDX, tdListVals, tdSortItems, tdiVals, gDictC, tdLck, tdSetd, tdExt, gIntT, tdTruT, tdRaise0, gTupP, tdPt, gDictT, tdLc2T, tdLcN, gLenN, tdValsI, tdSortSet, gCatB, gEq_bb, tdLcB, tdDNew, tdNNew, tdNGet, tdNPut, tdFGet, tdiF, tdDctF, tdDc, tdDcN, tdTru, tdDAugG, tdDictZ, tdCallV, tdLc2, ln_4, ln_5, ln_6, fmod_2, fdiv_2, gAddT, tdIdx, gdUnl, tdiD, gSortI, gMin2, gMax2, gTuple, gDictP, tdLcT, lcT, setD, unsetD, tdKGet, tdKGet2, tdGet2, tdPop, tdSeq, tdAsg, tdV, gdName, tdAnd, tdOr, tdNot, tdB, tdOp, tdCB, tdCons, tdNil, tdC, tdAug, tdSl, tdP, tdRet, tdTup, tdIf, tdIfS, gOrd, gI0, gI, gLen, gIx, gAdd, gInt, vw, ixP, gSl, tdDrop, tdRetN, tdNext, gIn_sc, gIn_ts, gIn_ls, gIn_t2, gIn_l2, gIn_l4, tdApp, sl_0, sl_1, sl_2, sl_3, sl_4, sl_5, ff, tt', true_and, id,
  eqS, tdFor, tdiT, tdiL, tdiR, tdXp, gList, gEq_ns, tdJoin, gJoin, vwS, gMul, gMod, gDiv, gPow, gI, tdAugS, gdSub, gSet, ixN_2, ixN_3, atI_3, atI_4, gEq_ss, gEq_ii, tdDict, tdPairs, tdNeg, Option.isNone_none, Option.isNone_some, gIsi, tdGet, tdDPut, tdDAug, tdIsN, tdNotN, DO.dic.injEq, Option.isNone_none, Option.isNone_some, gIn_l2, gIn_t2, Option.getD_some, tdLc, gMax, tdNoP, forR, tdRaise, tdCall, tdNotV, tdAndV, tdOrV, tdBox, tdZ, gdTup, gdCons, gdNil, tdBreak, tdCont, tdYes, icast, icast1, icast2, icast3, tdLst, gIn_l4, icastL, icastE, icastZ, ln_0, ln_1, ln_2, ln_3,
  List.getElem?_cons_zero, List.getElem?_cons_succ, List.set_cons_zero, List.set_cons_succ, Option.some.injEq, exists_eq_left', exists_eq_left, D.bl.injEq, decide_eq_true_eq,
  tdFldC, tdMeth, tdMake, tdPutF, tdAugF, D.ref.injEq, DO.ins.injEq, and_assoc, DL.gSub, D.int.injEq, D.str.injEq, sup_same, eq_self, not_true_eq_false, not_false_eq_true, Bool.false_eq_true, Bool.not_eq_true, decide_not, atIn, atI_0, atI_1, atI_2, List.getElem?_map, Option.map_some, Option.map_none, decide_true, decide_false, Bool.not_true, Bool.not_false, if_true, if_false, lm_0, lm_1, lm_2, List.length_map, exists_and_left, *])
variable {P : Program} {w : World} {K : PySem.W.Frag} {mg : Str → Option Value} {base : Heap}
/-- another literal of the same node -/
def turn (n : Nat) : Nat := if n % 2 = 0 then n + 1 else n - 1
theorem turn_lt {n m : Nat} (h : n < 2 * m) : turn n < 2 * m := by unfold turn; split <;> omega
def m_turned : M := fun ds S Q E => ∃ n : Nat, ds = [.int (n : Nat)] ∧ n ≤ 1000 ∧ Q (.int (turn n : Nat)) S
theorem d__law_turned (Z : Zf P w K mg base) : Ca P w K mg base 1 "_law_turned" ["literal"] m_turned := by
  obtain ⟨fd, F, hb⟩ := Z.F__law_turned
  refine ⟨_, fd, df_of (k := 0) F sc__law_turned (fun cdv A outer s H E F0 E' B => (dss_one (ds_ret (de_op od_sub (de_op od_addT (dv 0) de_int) (de_op od_mul de_int (de_op od_mod (dv 0) de_int)))))) ?_, Z.g__law_turned, F.kp, hb⟩
  rintro ds S Q E hl ⟨n, rfl, hn, hq⟩
  rw [show startD N__law_turned [.int (n : Nat)] = [some (.int (n : Nat))] from rfl]
  clear hl
  walk_at "nd"
  refine ⟨by decide, .inl (by decide), ?_⟩
  have e : ((n + 1 : Nat) : Int) - 2 * ((n % 2 : Nat) : Int) = (turn n : Nat) := by
    unfold turn
    split <;> omega
  rw [e]
  exact fini hq
/-- gates whose literals lie below them -/
def Gs (start : Nat) (ps : List (Nat × Nat)) : Prop := ∀ (k : Nat) (p : Nat × Nat), ps[k]? = some p → p.1 < 2 * (start + k) ∧ p.2 < 2 * (start + k)
theorem Gs.snoc {start : Nat} {ps : List (Nat × Nat)} {p : Nat × Nat} (h : Gs start ps) (h1 : p.1 < 2 * (start + ps.length)) (h2 : p.2 < 2 * (start + ps.length)) : Gs start (ps ++ [p]) := by
  intro k q hq
  by_cases hk : k < ps.length
  · rw [List.getElem?_append_left hk] at hq
    exact h k q hq
  · rw [List.getElem?_append_right (by omega)] at hq
    have : k - ps.length = 0 := by
      have := (List.getElem?_eq_some_iff.mp hq).1
      simpa using this
    rw [this] at hq
    cases hq
    have e : k = ps.length := by omega
    rw [e]
    exact ⟨h1, h2⟩
abbrev gaO (ps : List (Nat × Nat)) : DO := .lst (ps.map prD)
def m_conj : M := fun ds S Q E => ∃ (g : Addr) (start one two : Nat) (ps : List (Nat × Nat)), ds = [.ref g, .int (start : Nat), .int (one : Nat), .int (two : Nat)] ∧ S g = some (gaO ps) ∧ Gs start ps ∧ start ≤ 100 ∧ ps.length ≤ 100 ∧ one < 2 * (start + ps.length) ∧ two < 2 * (start + ps.length) ∧
  ∀ (r : Nat) (ps' : List (Nat × Nat)), Gs start ps' → ps.length ≤ ps'.length → ps'.length ≤ ps.length + 1 → r < 2 * (start + ps'.length) → Q (.int (r : Nat)) (sup S g (gaO ps'))
theorem d__law_conj (Z : Zf P w K mg base) : Ca P w K mg base 1 "_law_conj" ["gates", "start", "one", "two"] m_conj := by
  obtain ⟨fd, F, hb⟩ := Z.F__law_conj
  refine ⟨_, fd, df_of (k := 0) F sc__law_conj (fun cdv A outer s H E F0 E' B => (dss_cons (ds_asg (de_cB oc_sortI rfl Z.f_sorted bb_sorted (da_cons (de_lst (da_cons (dv 2) (da_cons (dv 3) da_nil))) da_nil)) (dg_unl (n := 2) rfl (dgs_cons (dg_name 4 nd__law_conj) (dgs_cons (dg_name 5 nd__law_conj) dgs_nil))))
    (dss_cons (ds_if (PW.pt (dw_or (dt_cmp (od_eq B.units) (dv 4) de_int rfl) (dw_or1 (PW.pt (dw_and (dt_cmp (od_eq B.units) (de_op od_mod (dv 4) de_int) de_int rfl) (dw_and1 (dt_cmp (od_eq B.units) (dv 5) (de_op od_addT (dv 4) de_int) rfl))))))) (dss_one (ds_ret de_int)) dss_nil)
    (dss_cons (ds_if (PW.pt (dw_or (dt_cmp (od_eq B.units) (dv 4) de_int rfl) (dw_or1 (dt_cmp (od_eq B.units) (dv 4) (dv 5) rfl)))) (dss_one (ds_ret (dv 5))) dss_nil)
    (dss_cons (ds_if (dt_cmp (od_ninD (hu65 B.room)) (de_tup (da_cons (dv 5) (da_cons (dv 4) da_nil))) (dv 0) rfl) (dss_one (ds_expr (de_app (dv 0) (de_tup (da_cons (dv 5) (da_cons (dv 4) da_nil)))))) dss_nil)
    (dss_one (ds_ret (de_op od_mul de_int (de_op od_addT (dv 1) (de_index (hu65 B.room) (dv 0) (de_tup (da_cons (dv 5) (da_cons (dv 4) da_nil))))))))))))) ?_, Z.g__law_conj, F.kp, hb⟩
  rintro ds S Q E hl ⟨g, start, one, two, ps, rfl, ho, hg, h1, h2, h3, h4, hq⟩
  rw [show startD N__law_conj [.ref g, .int (start : Nat), .int (one : Nat), .int (two : Nat)] = [some (.ref g), some (.int (start : Nat)), some (.int (one : Nat)), some (.int (two : Nat)), none, none] from rfl]
  clear hl
  refine seq_cut (fun ρ S' => ρ = [some (.ref g), some (.int (start : Nat)), some (.int (one : Nat)), some (.int (two : Nat)), some (.int (min one two : Nat)), some (.int (max one two : Nat))] ∧ S' = S) (fun Rest hR => ?_) ?_
  · walk_at "nd"
    refine ⟨[(one : Int), (two : Int)], rfl, fun ns' p1 p2 => ?_⟩
    rw [sort2 p1 p2, show min (one : Int) (two : Int) = (min one two : Nat) by omega, show max (one : Int) (two : Int) = (max one two : Nat) by omega]
    exact ⟨_, rfl, rfl, _, _, rfl, _, _, rfl, rfl, hR _ _ ⟨rfl, rfl⟩⟩
  rintro ρ S' ⟨rfl, rfl⟩
  have hmx : max one two < 2 * (start + ps.length) := by omega
  have hmn : min one two < 2 * (start + ps.length) := by omega
  have hle : min one two ≤ max one two := by omega
  generalize min one two = lo at hmn hle ⊢
  generalize max one two = hi at hmx hle ⊢
  have hsup : sup S' g (gaO ps) = S' := sup_id ho
  refine seq_cut (fun ρ S1 => ρ = [some (.ref g), some (.int (start : Nat)), some (.int (one : Nat)), some (.int (two : Nat)), some (.int (lo : Nat)), some (.int (hi : Nat))] ∧ S1 = S') (fun Rest hR => ?_) ?_
  · walk_at "nd"
    have z := hq 0 ps hg (Nat.le_refl _) (by omega) (by omega)
    rw [hsup] at z
    split
    · exact fini z
    · refine ⟨by decide, ?_⟩
      split
      · split
        · exact fini z
        · trivial
      · trivial
  rintro ρ S1 ⟨rfl, rfl⟩
  refine seq_cut (fun ρ S2 => ρ = [some (.ref g), some (.int (start : Nat)), some (.int (one : Nat)), some (.int (two : Nat)), some (.int (lo : Nat)), some (.int (hi : Nat))] ∧ S2 = S1) (fun Rest hR => ?_) ?_
  · walk_at "nd"
    have z := hq hi ps hg (Nat.le_refl _) (by omega) (by omega)
    rw [hsup] at z
    split
    · exact fini z
    · split
      · exact fini z
      · trivial
  rintro ρ S2 ⟨rfl, rfl⟩
  refine seq_cut (fun ρ S3 => ∃ ps' : List (Nat × Nat), Gs start ps' ∧ ps.length ≤ ps'.length ∧ ps'.length ≤ ps.length + 1 ∧ (hi, lo) ∈ ps' ∧ ρ = [some (.ref g), some (.int (start : Nat)), some (.int (one : Nat)), some (.int (two : Nat)), some (.int (lo : Nat)), some (.int (hi : Nat))] ∧ S3 = sup S2 g (gaO ps')) (fun Rest hR => ?_) ?_
  · walk_at "nd"
    refine gInD_pr (ps := ps) (p := (hi, lo)) ho ⟨_, rfl, ?_⟩
    by_cases hm : (hi, lo) ∈ ps
    · rw [if_neg (by rw [decide_eq_true hm]; decide)]
      exact hR _ _ ⟨ps, hg, Nat.le_refl _, by omega, hm, rfl, hsup.symm⟩
    · rw [if_pos (by rw [decide_eq_false hm]; decide)]
      refine ⟨⟨_, ho⟩, _, ho, ?_, hR _ _ ⟨ps ++ [(hi, lo)], hg.snoc hmx hmn, by rw [List.length_append]; omega, by rw [List.length_append]; exact Nat.le_refl _, List.mem_append_right _ List.mem_cons_self, rfl, ?_⟩⟩
      · rw [List.length_map]
        exact Nat.lt_of_lt_of_le (show ps.length < 101 by omega) (sz5 (by omega))
      · show _ = sup S2 g (.lst ((ps ++ [(hi, lo)]).map prD))
        rw [List.map_append]
        rfl
  rintro ρ S3 ⟨ps', g1, g2, g3, g4, rfl, rfl⟩
  walk_at "nd"
  obtain ⟨ds, j, z, e1, e2, e3, e4, e5, e6, e7, e8, hj⟩ := idx_pr (S := sup S2 g (gaO ps')) (a := g) sup_same g4 (Q := fun j => ps'[j]? = some (hi, lo)) fun j h => h
  rw [vw_ref sup_same] at e1
  injection e1 with e1
  subst e1
  have hjl := (List.getElem?_eq_some_iff.mp hj).1
  refine ⟨⟨_, rfl⟩, _, rfl, e2, e3, e4, e5, j, z, e6, e7, e8, .inl (by decide), ?_⟩
  have e9 : (2 : Int) * ((start + j : Nat) : Int) = (2 * (start + j) : Nat) := by omega
  rw [e9]
  exact fini (hq _ ps' g1 g2 g3 (by omega))
end K07
namespace K07
open PySem PySem.Spec L2 DL
local macro_rules | `(tactic| walk_at "nd") => `(tactic| simp only [icO, isN0, gStr, tdiE, tdiZT, gSortND, gSortL, gSortDX, tdListVals, tdSortItems, tdiVals, gDictC, tdLck, tdSetd, tdExt, gIntT, tdTruT, tdRaise0, gTupP, tdPt, gDictT, tdLc2T, tdLcN, gLenN, tdValsI, tdSortSet, gCatB, gEq_bb, tdLcB, tdDNew, tdNNew, tdNGet, tdNPut, tdFGet, tdiF, tdDctF, tdDc, tdDcN, tdTru, tdDAugG, tdDictZ, tdCallV, tdLc2, ln_4, ln_5, ln_6, fmod_2, fdiv_2, gAddT, tdIdx, gdUnl, tdiD, gSortI, gMin2, gMax2, gTuple, gDictP, tdLcT, lcT, setD, unsetD, tdKGet, tdKGet2, tdGet2, tdPop, tdSeq, tdAsg, tdV, gdName, tdAnd, tdOr, tdNot, tdB, tdOp, tdCB, tdCons, tdNil, tdC, tdAug, tdSl, tdP, tdRet, tdTup, tdIf, tdIfS, gOrd, gI0, gI, gLen, gIx, gAdd, gInt, vw, ixP, gSl, tdDrop, tdRetN, tdNext, gIn_sc, gIn_ts, gIn_ls, gIn_t2, gIn_l2, gIn_l4, tdApp, sl_0, sl_1, sl_2, sl_3, sl_4, sl_5, ff, tt', true_and, id,
  eqS, tdFor, tdiT, tdiL, tdiR, tdXp, gList, gEq_ns, tdJoin, gJoin, vwS, gMul, gMod, gDiv, gPow, gI, tdAugS, gdSub, gSet, ixN_2, ixN_3, atI_3, atI_4, gEq_ss, gEq_ii, tdDict, tdPairs, tdNeg, Option.isNone_none, Option.isNone_some, gIsi, tdGet, tdDPut, tdDAug, tdIsN, tdNotN, DO.dic.injEq, Option.isNone_none, Option.isNone_some, gIn_l2, gIn_t2, Option.getD_some, tdLc, gMax, tdNoP, forR, tdRaise, tdCall, tdNotV, tdAndV, tdOrV, tdBox, tdZ, gdTup, gdCons, gdNil, tdBreak, tdCont, tdYes, icast, icast1, icast2, icast3, tdLst, gIn_l4, icastL, icastE, icastZ, ln_0, ln_1, ln_2, ln_3,
  List.getElem?_cons_zero, List.getElem?_cons_succ, List.set_cons_zero, List.set_cons_succ, Option.some.injEq, exists_eq_left', exists_eq_left, D.bl.injEq, decide_eq_true_eq,
  tdFldC, tdMeth, tdMake, tdPutF, tdAugF, D.ref.injEq, DO.ins.injEq, and_assoc, DL.gSub, D.int.injEq, D.str.injEq, sup_same, eq_self, not_true_eq_false, not_false_eq_true, Bool.false_eq_true, Bool.not_eq_true, decide_not, atIn, atI_0, atI_1, atI_2, List.getElem?_map, Option.map_some, Option.map_none, decide_true, decide_false, Bool.not_true, Bool.not_false, if_true, if_false, lm_0, lm_1, lm_2, List.length_map, exists_and_left, *])
variable {P : Program} {w : World} {K : PySem.W.Frag} {mg : Str → Option Value} {base : Heap}
/-- a store whose gates are at g -/
structure GSt (g : Addr) (start : Nat) (ps : List (Nat × Nat)) (S : Store) : Prop where
  o : S g = some (gaO ps)
  g : Gs start ps
  l1 : start ≤ 100
theorem conj_go {g : Addr} {start one two : Nat} {ps : List (Nat × Nat)} {S : Store} {Q : D → Store → Prop} {E : XD} (h : GSt g start ps S) (hl : ps.length ≤ 100) (h1 : one < 2 * (start + ps.length)) (h2 : two < 2 * (start + ps.length))
    (q : ∀ (r : Nat) (ps' : List (Nat × Nat)), GSt g start ps' (sup S g (gaO ps')) → ps.length ≤ ps'.length → ps'.length ≤ ps.length + 1 → r < 2 * (start + ps'.length) → Q (.int (r : Nat)) (sup S g (gaO ps'))) :
    m_conj [.ref g, .int (start : Nat), .int (one : Nat), .int (two : Nat)] S Q E :=
  ⟨g, start, one, two, ps, rfl, h.o, h.g, h.l1, hl, h1, h2, fun r ps' g1 g2 g3 g4 => q r ps' ⟨sup_same, g1, h.l1⟩ g2 g3 g4⟩
def m_step : M := fun ds S Q E => ∃ (g : Addr) (start one two : Nat) (word : Tx) (other : Bool) (ps : List (Nat × Nat)), ds = [.ref g, .int (start : Nat), .str word, .int (one : Nat), .int (two : Nat), .bl other] ∧ GSt g start ps S ∧ ps.length ≤ 90 ∧
  one < 2 * (start + ps.length) ∧ two < 2 * (start + ps.length) ∧
  ∀ (r : Nat) (ps' : List (Nat × Nat)), Gs start ps' → ps.length ≤ ps'.length → ps'.length ≤ ps.length + 3 → r < 2 * (start + ps'.length) → Q (.int (r : Nat)) (sup S g (gaO ps'))
theorem d__law_step (Z : Zf P w K mg base) : Ca P w K mg base 2 "_law_step" ["gates", "start", "word", "one", "two", "other"] m_step := by
  obtain ⟨fd, F, hb⟩ := Z.F__law_step
  refine ⟨_, fd, df_of (k := 1) F sc__law_step (fun cdv A outer s H E F0 E' B => (dss_cons (ds_if (dt_cmp (od_eq B.units) (dv 2) de_str rfl) (dss_one (ds_ret (de_ca (d__law_conj Z) (B.mono (by omega)) rfl (da_cons (dv 0) (da_cons (dv 1) (da_cons (dv 3) (da_cons (dv 4) da_nil))))))) dss_nil)
    (dss_cons (ds_if (dt_cmp (od_eq B.units) (dv 2) de_str rfl) (dss_one (ds_ret (de_ca (d__law_turned Z) (B.mono (by omega)) rfl (da_cons (de_ca (d__law_conj Z) (B.mono (by omega)) rfl (da_cons (dv 0) (da_cons (dv 1) (da_cons (de_ca (d__law_turned Z) (B.mono (by omega)) rfl (da_cons (dv 3) da_nil)) (da_cons (de_ca (d__law_turned Z) (B.mono (by omega)) rfl (da_cons (dv 4) da_nil)) da_nil))))) da_nil)))) dss_nil)
    (dss_cons (ds_if (dt_val (dv 5)) (dss_cons (ds_set 6 nd__law_step (de_ca (d__law_conj Z) (B.mono (by omega)) rfl (da_cons (dv 0) (da_cons (dv 1) (da_cons (dv 3) (da_cons (dv 4) da_nil))))))
    (dss_one (ds_ret (de_ca (d__law_conj Z) (B.mono (by omega)) rfl (da_cons (dv 0) (da_cons (dv 1) (da_cons (de_ca (d__law_turned Z) (B.mono (by omega)) rfl (da_cons (de_ca (d__law_conj Z) (B.mono (by omega)) rfl (da_cons (dv 0) (da_cons (dv 1) (da_cons (de_ca (d__law_turned Z) (B.mono (by omega)) rfl (da_cons (dv 3) da_nil)) (da_cons (de_ca (d__law_turned Z) (B.mono (by omega)) rfl (da_cons (dv 4) da_nil)) da_nil))))) da_nil)) (da_cons (de_ca (d__law_turned Z) (B.mono (by omega)) rfl (da_cons (dv 6) da_nil)) da_nil)))))))) dss_nil)
    (dss_cons (ds_set 7 nd__law_step (de_ca (d__law_conj Z) (B.mono (by omega)) rfl (da_cons (dv 0) (da_cons (dv 1) (da_cons (dv 3) (da_cons (de_ca (d__law_turned Z) (B.mono (by omega)) rfl (da_cons (dv 4) da_nil)) da_nil))))))
    (dss_cons (ds_set 8 nd__law_step (de_ca (d__law_conj Z) (B.mono (by omega)) rfl (da_cons (dv 0) (da_cons (dv 1) (da_cons (de_ca (d__law_turned Z) (B.mono (by omega)) rfl (da_cons (dv 3) da_nil)) (da_cons (dv 4) da_nil))))))
    (dss_one (ds_ret (de_ca (d__law_turned Z) (B.mono (by omega)) rfl (da_cons (de_ca (d__law_conj Z) (B.mono (by omega)) rfl (da_cons (dv 0) (da_cons (dv 1) (da_cons (de_ca (d__law_turned Z) (B.mono (by omega)) rfl (da_cons (dv 7) da_nil)) (da_cons (de_ca (d__law_turned Z) (B.mono (by omega)) rfl (da_cons (dv 8) da_nil)) da_nil))))) da_nil)))))))))) ?_, Z.g__law_step, F.kp, hb⟩
  rintro ds S Q E hl ⟨g, start, one, two, word, other, ps, rfl, hg, hl0, h1, h2, hq⟩
  rw [show startD N__law_step [.ref g, .int (start : Nat), .str word, .int (one : Nat), .int (two : Nat), .bl other] = [some (.ref g), some (.int (start : Nat)), some (.str word), some (.int (one : Nat)), some (.int (two : Nat)), some (.bl other), none, none, none] from rfl]
  clear hl
  have hs := hg.l1
  have t1 := turn_lt h1
  have t2 := turn_lt h2
  refine seq_cut (fun ρ S1 => ρ = [some (.ref g), some (.int (start : Nat)), some (.str word), some (.int (one : Nat)), some (.int (two : Nat)), some (.bl other), none, none, none] ∧ S1 = S) (fun Rest hR => ?_) ?_
  · walk_at "nd"
    split
    · exact conj_go hg (by omega) h1 h2 fun r ps' g1 g2 g3 g4 => fini (hq r ps' g1.g g2 (by omega) g4)
    · trivial
  rintro ρ S1 ⟨rfl, rfl⟩
  refine seq_cut (fun ρ S2 => ρ = [some (.ref g), some (.int (start : Nat)), some (.str word), some (.int (one : Nat)), some (.int (two : Nat)), some (.bl other), none, none, none] ∧ S2 = S1) (fun Rest hR => ?_) ?_
  · walk_at "nd"
    split
    · exact ⟨one, rfl, by omega, two, rfl, by omega, conj_go hg (by omega) t1 t2 fun r ps' g1 g2 g3 g4 => ⟨r, rfl, by omega, fini (hq _ ps' g1.g g2 (by omega) (turn_lt g4))⟩⟩
    · trivial
  rintro ρ S2 ⟨rfl, rfl⟩
  refine seq_cut (fun ρ S3 => ρ = [some (.ref g), some (.int (start : Nat)), some (.str word), some (.int (one : Nat)), some (.int (two : Nat)), some (.bl other), none, none, none] ∧ S3 = S2) (fun Rest hR => ?_) ?_
  · walk_at "nd"
    cases other with
    | false => walk_at "nd"
    | true =>
      walk_at "nd"
      refine conj_go hg (by omega) h1 h2 fun r ps1 g1 g2 g3 g4 => ?_
      refine ⟨one, rfl, by omega, two, rfl, by omega, conj_go g1 (by omega) (by omega) (by omega) fun r2 ps2 k1 k2 k3 k4 => ?_⟩
      have t4 := turn_lt g4
      have t5 := turn_lt k4
      refine ⟨r2, rfl, by omega, r, rfl, by omega, conj_go k1 (by omega) t5 (by omega) fun r3 ps3 j1 j2 j3 j4 => ?_⟩
      rw [sup_sup, sup_sup]
      exact fini (hq r3 ps3 j1.g (by omega) (by omega) j4)
  rintro ρ S3 ⟨rfl, rfl⟩
  walk_at "nd"
  refine ⟨two, rfl, by omega, conj_go hg (by omega) h1 t2 fun r ps1 g1 g2 g3 g4 => ?_⟩
  refine ⟨one, rfl, by omega, conj_go g1 (by omega) (by omega) (by omega) fun r2 ps2 k1 k2 k3 k4 => ?_⟩
  have t4 := turn_lt g4
  have t5 := turn_lt k4
  refine ⟨r, rfl, by omega, r2, rfl, by omega, conj_go k1 (by omega) (by omega) t5 fun r3 ps3 j1 j2 j3 j4 => ?_⟩
  refine ⟨r3, rfl, by omega, ?_⟩
  rw [sup_sup, sup_sup]
  exact fini (hq _ ps3 j1.g (by omega) (by omega) (turn_lt j4))
end K07
namespace K07
open PySem PySem.Spec L2 DL
local macro_rules | `(tactic| walk_at "nd") => `(tactic| simp only [icO, isN0, gStr, tdiE, tdiZT, gSortND, gSortL, gSortDX, tdListVals, tdSortItems, tdiVals, gDictC, tdLck, tdSetd, tdExt, gIntT, tdTruT, tdRaise0, gTupP, tdPt, gDictT, tdLc2T, tdLcN, gLenN, tdValsI, tdSortSet, gCatB, gEq_bb, tdLcB, tdDNew, tdNNew, tdNGet, tdNPut, tdFGet, tdiF, tdDctF, tdDc, tdDcN, tdTru, tdDAugG, tdDictZ, tdCallV, tdLc2, ln_4, ln_5, ln_6, fmod_2, fdiv_2, gAddT, tdIdx, gdUnl, tdiD, gSortI, gMin2, gMax2, gTuple, gDictP, tdLcT, lcT, setD, unsetD, tdKGet, tdKGet2, tdGet2, tdPop, tdSeq, tdAsg, tdV, gdName, tdAnd, tdOr, tdNot, tdB, tdOp, tdCB, tdCons, tdNil, tdC, tdAug, tdSl, tdP, tdRet, tdTup, tdIf, tdIfS, gOrd, gI0, gI, gLen, gIx, gAdd, gInt, vw, ixP, gSl, tdDrop, tdRetN, tdNext, gIn_sc, gIn_ts, gIn_ls, gIn_t2, gIn_l2, gIn_l4, tdApp, sl_0, sl_1, sl_2, sl_3, sl_4, sl_5, ff, tt', true_and, id,
  eqS, tdFor, tdiT, tdiL, tdiR, tdXp, gList, gEq_ns, tdJoin, gJoin, vwS, gMul, gMod, gDiv, gPow, gI, tdAugS, gdSub, gSet, ixN_2, ixN_3, atI_3, atI_4, gEq_ss, gEq_ii, tdDict, tdPairs, tdNeg, Option.isNone_none, Option.isNone_some, gIsi, tdGet, tdDPut, tdDAug, tdIsN, tdNotN, DO.dic.injEq, Option.isNone_none, Option.isNone_some, gIn_l2, gIn_t2, Option.getD_some, tdLc, gMax, tdNoP, forR, tdRaise, tdCall, tdNotV, tdAndV, tdOrV, tdBox, tdZ, gdTup, gdCons, gdNil, tdBreak, tdCont, tdYes, icast, icast1, icast2, icast3, tdLst, gIn_l4, icastL, icastE, icastZ, ln_0, ln_1, ln_2, ln_3,
  List.getElem?_cons_zero, List.getElem?_cons_succ, List.set_cons_zero, List.set_cons_succ, Option.some.injEq, exists_eq_left', exists_eq_left, D.bl.injEq, decide_eq_true_eq,
  tdFldC, tdMeth, tdMake, tdPutF, tdAugF, D.ref.injEq, DO.ins.injEq, and_assoc, DL.gSub, D.int.injEq, D.str.injEq, sup_same, eq_self, not_true_eq_false, not_false_eq_true, Bool.false_eq_true, Bool.not_eq_true, decide_not, atIn, atI_0, atI_1, atI_2, List.getElem?_map, Option.map_some, Option.map_none, decide_true, decide_false, Bool.not_true, Bool.not_false, if_true, if_false, lm_0, lm_1, lm_2, List.length_map, exists_and_left, *])
variable {P : Program} {w : World} {K : PySem.W.Frag} {mg : Str → Option Value} {base : Heap}
/-- a literal under other numbers -/
def num (kv : List (DK × D)) (l : Nat) : Nat := match valD kv (.inl ((l / 2 : Nat) : Int)) with
  | some (.int v) => 2 * v.toNat + l % 2
  | _ => 0
theorem num_at {kv : List (DK × D)} {l v : Nat} (h : valD kv (.inl ((l / 2 : Nat) : Int)) = some (nat v)) : num kv l = 2 * v + l % 2 := by
  unfold num
  rw [h]
  show 2 * ((v : Nat) : Int).toNat + l % 2 = _
  rw [Int.toNat_natCast]
theorem num_go {S : Store} {a b g : Addr} {kv : List (DK × D)} {l : Nat} {Q : D → Store → Prop} {start : Nat} {e u : D} {x : Option D} (h : S a = some (.dic kv)) (hv : ∃ v, valD kv (.inl ((l / 2 : Nat) : Int)) = some (nat v)) (q : Q (nat (num kv l)) S) :
    tdOp gAddT (tdOp gMul (tdC (.int 2)) (tdGet (tdV 6) (tdOp gDiv (tdV 4) (tdC (.int 2))))) (tdOp gMod (tdV 4) (tdC (.int 2)))
      ([some (.int (start : Nat)), some (.ref g), some e, some u, none, x, some (.ref a), none, some (.ref b)].set 4 (some (nat l))) S Q := by
  obtain ⟨v, hv⟩ := hv
  rw [num_at hv] at q
  walk_at "nd"
  refine ⟨⟨by decide, by decide⟩, .inl ((l / 2 : Nat) : Int), rfl, nat v, hv, ?_⟩
  show CMul 2 (v : Int) ∧ (2 : Int) ≠ 0 ∧ Q (.int (2 * (v : Int) + ((l % 2 : Nat) : Int))) S
  have e1 : 2 * (v : Int) + ((l % 2 : Nat) : Int) = (2 * v + l % 2 : Nat) := by omega
  rw [e1]
  exact ⟨.inl (by decide), by decide, q⟩
def m_trimmed : M := fun ds S Q E => ∃ (g : Addr) (start : Nat) (ps : List (Nat × Nat)) (ends : List Nat), ds = [.int (start : Nat), .ref g, .lst (ends.map nat)] ∧ GSt g start ps S ∧ ps.length ≤ 50 ∧ ends.length ≤ 50 ∧ (∀ l ∈ ends, l < 2 * (start + ps.length)) ∧
  ∀ (kept : List (Nat × Nat)) (told : List Nat) S', Sub S S' → Gs start kept → kept.length ≤ ps.length → told.length = ends.length → (∀ l ∈ told, l < 2 * (start + kept.length)) → Q (.tup [.tup (kept.map prD), .lst (told.map nat)]) S'
theorem sup_swap {S : Store} {a b : Addr} {x y z : DO} (h : b ≠ a) : sup (sup (sup S a x) b y) a z = sup (sup S a z) b y := by
  funext d
  unfold sup
  by_cases h1 : d = a
  · rw [if_pos h1, if_neg (by rw [h1]; exact h.symm), if_pos h1]
  · rw [if_neg h1, if_neg h1, if_neg h1]
theorem d__law_trimmed (Z : Zf P w K mg base) : Ca P w K mg base 1 "_law_trimmed" ["start", "gates", "ends"] m_trimmed := by
  obtain ⟨fd, F, hb⟩ := Z.F__law_trimmed
  refine ⟨_, fd, df_of (k := 0) F sc__law_trimmed (fun cdv A outer s H E F0 E' B => (dss_cons (ds_setLc 3 rfl nd__law_trimmed rfl rfl (sw_true rfl rfl rfl (by decide +kernel)) (di_lst (dv 2)) (blkOk_by (own := [("literal", 4)]) (N := N__law_trimmed) (sc := defScope st__law_trimmed) (by decide +kernel)) (fun _ _ _ _ _ => pg_name (i := 4) nd__law_trimmed rfl (Or.inl rfl)) (fun _ _ _ _ _ => dts_nil) (fun _ _ _ _ _ => (de_op od_div (dv 4) de_int)))
    (dss_cons (ds_for (passes_of rfl) rfl (di_down rfl Z.f_range (da_cons (de_op od_sub (de_cB oc_len rfl Z.f_len bb_len (da_cons (dv 1) da_nil)) de_int) (da_cons (de_neg de_int) (da_cons (de_neg de_int) da_nil)))) (dg_name 5 nd__law_trimmed) (dss_one (ds_if (dt_cmp od_in (de_op od_addT (dv 0) (dv 5)) (dv 3) rfl) (dss_one (ds_set 3 nd__law_trimmed (de_op od_addT (dv 3) (de_lc rfl nd__law_trimmed (di_tup (de_ix (dv 1) (dv 5))) (blkOk_by (own := [("literal", 4)]) (N := N__law_trimmed) (sc := defScope st__law_trimmed) (by decide +kernel)) (fun _ _ _ _ _ => pg_name (i := 4) nd__law_trimmed rfl (Or.inl rfl)) (fun _ _ _ _ _ => dts_nil) (fun _ _ _ _ _ => (de_op od_div (dv 4) de_int)))))) dss_nil)))
    (dss_cons (ds_set 6 nd__law_trimmed (de_cT (oc_dictP rfl) rfl Z.f_dict bb_dict (da_cons (de_lc rfl nd__law_trimmed (di_rng rfl Z.f_range (da_cons (dv 0) da_nil)) (blkOk_by (own := [("node", 7)]) (N := N__law_trimmed) (sc := defScope st__law_trimmed) (by decide +kernel)) (fun _ _ _ _ _ => pg_name (i := 7) nd__law_trimmed rfl (Or.inl rfl)) (fun _ _ _ _ _ => dts_nil) (fun _ _ _ _ _ => (de_tup (da_cons (dv 7) (da_cons (dv 7) da_nil))))) da_nil)))
    (dss_cons (ds_set 8 nd__law_trimmed (de_box da_nil))
    (dss_cons (ds_for (passes_of rfl) rfl (di_rng rfl Z.f_range (da_cons (de_cB oc_len rfl Z.f_len bb_len (da_cons (dv 1) da_nil)) da_nil)) (dg_name 5 nd__law_trimmed) (dss_one (ds_if (dt_cmp od_in (de_op od_addT (dv 0) (dv 5)) (dv 3) rfl) (dss_cons (ds_dput B.units1 (dv 6) (de_op od_addT (dv 0) (dv 5)) (de_op od_addT (dv 0) (de_cB oc_len rfl Z.f_len bb_len (da_cons (dv 8) da_nil))))
    (dss_one (ds_expr (de_app (dv 8) (de_cT oc_tuple rfl Z.f_tuple bb_tuple (da_cons (de_lc rfl nd__law_trimmed (di_tup (de_ix (dv 1) (dv 5))) (blkOk_by (own := [("literal", 4)]) (N := N__law_trimmed) (sc := defScope st__law_trimmed) (by decide +kernel)) (fun _ _ _ _ _ => pg_name (i := 4) nd__law_trimmed rfl (Or.inl rfl)) (fun _ _ _ _ _ => dts_nil) (fun _ _ _ _ _ => (de_op od_addT (de_op od_mul de_int (de_get B.blk.units1 (dv 6) (de_op od_div (dv 4) de_int))) (de_op od_mod (dv 4) de_int)))) da_nil)))))) dss_nil)))
    (dss_one (ds_ret (de_tup (da_cons (de_cT oc_tuple rfl Z.f_tuple bb_tuple (da_cons (dv 8) da_nil)) (da_cons (de_lc rfl nd__law_trimmed (di_lst (dv 2)) (blkOk_by (own := [("literal", 4)]) (N := N__law_trimmed) (sc := defScope st__law_trimmed) (by decide +kernel)) (fun _ _ _ _ _ => pg_name (i := 4) nd__law_trimmed rfl (Or.inl rfl)) (fun _ _ _ _ _ => dts_nil) (fun _ _ _ _ _ => (de_op od_addT (de_op od_mul de_int (de_get B.blk.units1 (dv 6) (de_op od_div (dv 4) de_int))) (de_op od_mod (dv 4) de_int)))) da_nil))))))))))) ?_, Z.g__law_trimmed, F.kp, hb⟩
  rintro ds S Q E hl ⟨g, start, ps, ends, rfl, hg, hps, hen, hb2, hq⟩
  rw [show startD N__law_trimmed [.int (start : Nat), .ref g, .lst (ends.map nat)] = [some (.int (start : Nat)), some (.ref g), some (.lst (ends.map nat)), none, none, none, none, none, none] from rfl]
  clear hl
  have hs := hg.l1
  have ho := hg.o
  refine seq_cut (fun ρ S1 => ρ = [some (.int (start : Nat)), some (.ref g), some (.lst (ends.map nat)), some (.lst ((ends.map (· / 2)).map nat)), none, none, none, none, none] ∧ S1 = S) (fun Rest hR => ?_) ?_
  · walk_at "nd"
    refine lcR_n (fun n => nat (n / 2)) ends [] S (fun n _ Q' q => ?_) (by simp; omega) ?_
    · walk_at "nd"
      exact ⟨⟨by decide, by decide⟩, by first | exact q | trivial⟩
    · rw [List.nil_append]
      have e : (ends.map fun n => nat (n / 2)) = (ends.map (· / 2)).map nat := by rw [List.map_map]; rfl
      rw [e]
      exact hR _ _ ⟨rfl, rfl⟩
  rintro ρ S1 ⟨rfl, rfl⟩
  /- the first loop -/
  refine seq_cut (fun ρ S2 => ∃ (U : List Nat) (x : Option D), (∀ l ∈ ends, l / 2 ∈ U) ∧ U.length ≤ 200 ∧ (∀ (k : Nat) (p : Nat × Nat), ps[k]? = some p → start + k ∈ U → p.1 / 2 ∈ U ∧ p.2 / 2 ∈ U) ∧
    ρ = [some (.int (start : Nat)), some (.ref g), some (.lst (ends.map nat)), some (.lst (U.map nat)), none, x, none, none, none] ∧ S2 = S1) (fun Rest hR => ?_) ?_
  · walk_at "nd"
    refine ⟨by omega, by omega, by decide, by decide, ?_⟩
    have er : rngN ((ps.length : Int) - 1) ((ps.length : Int) - 1 - -1).toNat = (List.range' 0 ps.length).map fun (k : Nat) => D.int ((ps.length : Int) - 1 - (k : Int)) := by
      unfold rngN
      rw [show ((ps.length : Int) - 1 - -1).toNat = ps.length by omega, List.range_eq_range']
    rw [er]
    refine for_ind (fun ds ρ S' => ∃ (j m : Nat) (U : List Nat) (x : Option D), ds = (List.range' j m).map (fun (k : Nat) => D.int ((ps.length : Int) - 1 - (k : Int))) ∧ j + m = ps.length ∧ (∀ l ∈ ends, l / 2 ∈ U) ∧ U.length ≤ 50 + 2 * j ∧
      (∀ (k : Nat) (p : Nat × Nat), ps.length ≤ k + j → ps[k]? = some p → start + k ∈ U → p.1 / 2 ∈ U ∧ p.2 / 2 ∈ U) ∧
      ρ = [some (.int (start : Nat)), some (.ref g), some (.lst (ends.map nat)), some (.lst (U.map nat)), none, x, none, none, none] ∧ S' = S1) ?_ ?_ _ _ _ ⟨0, ps.length, ends.map (· / 2), none, rfl, by omega, fun l hl => List.mem_map.mpr ⟨l, hl, rfl⟩, by rw [List.length_map]; omega, fun k p h1 h2 => absurd (List.getElem?_eq_some_iff.mp h2).1 (by omega), rfl, rfl⟩
    · rintro ρ S' ⟨j, m, U, x, e1, e2, u1, u2, u3, rfl, rfl⟩
      have hm : m = 0 := by
        cases m with
        | zero => rfl
        | succ m => rw [List.range'_succ] at e1; cases e1
      exact hR _ _ ⟨U, x, u1, by omega, fun k p h => u3 k p (by omega) h, rfl, rfl⟩
    · rintro d ds ρ S' W hW ⟨j, m, U, x, e1, e2, u1, u2, u3, rfl, rfl⟩
      cases m with
      | zero => cases e1
      | succ m =>
        rw [List.range'_succ, List.map_cons] at e1
        injection e1 with e1 e3
        subst e1 e3
        have ek : (ps.length : Int) - 1 - (j : Int) = ((ps.length - 1 - j : Nat) : Int) := by omega
        rw [ek]
        generalize hkk : ps.length - 1 - j = kk
        have hk : kk < ps.length := by omega
        have hgk : ps[kk]? = some ps[kk] := List.getElem?_eq_getElem hk
        walk_at "nd"
        rw [gIn_nat]
        refine ⟨_, rfl, ?_⟩
        by_cases hm : start + kk ∈ U
        · rw [if_pos (by rw [decide_eq_true hm]; rfl)]
          refine ⟨DL.prD ps[kk], ?_, ?_⟩
          · rw [ho]
            show atI (ps.map DL.prD) ((kk : Nat) : Int) = _
            rw [atIn, List.getElem?_map, hgk]
            rfl
          · unfold DL.prD
            walk_at "nd"
            refine lcR_n (fun n => nat (n / 2)) [ps[kk].1, ps[kk].2] [] S' (fun n _ Q' q => ?_) (show 0 + 2 ≤ 100000 by omega) ?_
            · walk_at "nd"
              exact ⟨⟨by decide, by decide⟩, by first | exact q | trivial⟩
            · refine ⟨sz5 (by simp; omega), hW _ _ ⟨j + 1, m, U ++ [ps[kk].1 / 2, ps[kk].2 / 2], _, rfl, by omega, fun l hl => List.mem_append_left _ (u1 l hl), by rw [List.length_append]; show U.length + 2 ≤ _; omega, fun k p h1 h2 h3 => ?_, by rw [List.map_append]; rfl, rfl⟩⟩
              have hgs := hg.g kk _ hgk
              by_cases e : k = kk
              · subst e
                rw [hgk] at h2
                cases h2
                exact ⟨List.mem_append_right _ List.mem_cons_self, List.mem_append_right _ (List.mem_cons_of_mem _ List.mem_cons_self)⟩
              · have h4 : start + k ∈ U := by
                  rcases List.mem_append.mp h3 with z | z
                  · exact z
                  · exfalso
                    simp only [List.mem_cons, List.not_mem_nil, or_false] at z
                    omega
                obtain ⟨q1, q2⟩ := u3 k p (by omega) h2 h4
                exact ⟨List.mem_append_left _ q1, List.mem_append_left _ q2⟩
        · rw [if_neg (by rw [decide_eq_false hm]; decide)]
          refine hW _ _ ⟨j + 1, m, U, _, rfl, by omega, u1, by omega, fun k p h1 h2 h3 => ?_, rfl, rfl⟩
          by_cases e : k = kk
          · subst e
            exact absurd h3 hm
          · exact u3 k p (by omega) h2 h3
  rintro ρ S2 ⟨U, x, hU1, hU2, hU3, rfl, rfl⟩
  refine seq_cut (fun ρ S3 => ∃ (a : Addr) (kvs : List (DK × D)), S2 a = none ∧ kvs.length ≤ start ∧ (∀ j, j < start → valD kvs (.inl (j : Nat)) = some (nat j)) ∧
    ρ = [some (.int (start : Nat)), some (.ref g), some (.lst (ends.map nat)), some (.lst (U.map nat)), none, x, some (.ref a), none, none] ∧ S3 = sup S2 a (.dic kvs)) (fun Rest hR => ?_) ?_
  · walk_at "nd"
    refine ⟨by omega, by omega, ?_⟩
    rw [rng_nat]
    refine lcR_n (fun n => .tup [nat n, nat n]) (List.range' 0 start) [] S2 (fun n _ Q' q => ?_) (by rw [List.length_range']; show 0 + start ≤ _; omega) ?_
    · walk_at "nd"
    · refine ⟨_, pairsD_nat nat _, fun a ha => hR _ _ ⟨a, _, ha, ?_, fun j hj => ?_, rfl, rfl⟩⟩
      · have := merge_len nat (List.range' 0 start) []
        rw [List.length_range'] at this
        simpa using this
      · rw [valD_merge, if_pos (by rw [List.mem_range'_1]; omega)]
  rintro ρ S3 ⟨a, kvs, ha, hk1, hk2, rfl, rfl⟩
  have hga : g ≠ a := fun z => by rw [z, ha] at ho; cases ho
  refine seq_cut (fun ρ S4 => ∃ b : Addr, S2 b = none ∧ b ≠ a ∧ ρ = [some (.int (start : Nat)), some (.ref g), some (.lst (ends.map nat)), some (.lst (U.map nat)), none, x, some (.ref a), none, some (.ref b)] ∧ S4 = sup (sup S2 a (.dic kvs)) b (.lst [])) (fun Rest hR => ?_) ?_
  · walk_at "nd"
    refine fun b hb => ?_
    have hba : b ≠ a := fun z => by rw [z, sup_same] at hb; cases hb
    exact hR _ _ ⟨b, by rw [sup_ne hba] at hb; exact hb, hba, rfl, rfl⟩
  rintro ρ S4 ⟨b, hb0, hba, rfl, rfl⟩
  have hgb : g ≠ b := fun z => by rw [z, hb0] at ho; cases ho
  have hog : ∀ (kv : List (DK × D)) (kp : List (Nat × Nat)), sup (sup S2 a (.dic kv)) b (gaO kp) g = some (gaO ps) := fun kv kp => by rw [sup_ne hgb, sup_ne hga]; exact ho
  refine seq_cut (fun ρ S5 => ∃ (kv : List (DK × D)) (kp : List (Nat × Nat)) (x : Option D), Gs start kp ∧ kp.length ≤ ps.length ∧ (∀ j, j < start + ps.length → (j < start ∨ j ∈ U) → ∃ v, valD kv (.inl (j : Nat)) = some (nat v) ∧ v < start + kp.length) ∧
    ρ = [some (.int (start : Nat)), some (.ref g), some (.lst (ends.map nat)), some (.lst (U.map nat)), none, x, some (.ref a), none, some (.ref b)] ∧ S5 = sup (sup S2 a (.dic kv)) b (gaO kp)) (fun Rest hR => ?_) ?_
  · walk_at "nd"
    rw [show sup (sup S2 a (DO.dic kvs)) b (DO.lst []) g = some (gaO ps) from hog kvs []]
    show -2 ^ 62 ≤ (((ps.map DL.prD).length : Nat) : Int) ∧ (((ps.map DL.prD).length : Nat) : Int) < 2 ^ 62 ∧ forR _ _ _ _ _ _
    rw [List.length_map]
    refine ⟨by omega, by omega, ?_⟩
    rw [rng_nat]
    refine for_ind (fun ds ρ S' => ∃ (k m : Nat) (kv : List (DK × D)) (kp : List (Nat × Nat)) (x : Option D), ds = (List.range' k m).map nat ∧ k + m = ps.length ∧ Gs start kp ∧ kp.length ≤ k ∧ kv.length ≤ start + k ∧ (∀ j, j < start + k → (j < start ∨ j ∈ U) → ∃ v, valD kv (.inl (j : Nat)) = some (nat v) ∧ v < start + kp.length) ∧
      ρ = [some (.int (start : Nat)), some (.ref g), some (.lst (ends.map nat)), some (.lst (U.map nat)), none, x, some (.ref a), none, some (.ref b)] ∧ S' = sup (sup S2 a (.dic kv)) b (gaO kp)) ?_ ?_ _ _ _
      ⟨0, ps.length, kvs, [], x, rfl, by omega, fun k p h => by simp at h, Nat.le_refl _, hk1, fun j h1 _ => ⟨j, hk2 j (by omega), by show j < start + 0; omega⟩, rfl, rfl⟩
    · rintro ρ S' ⟨k, m, kv, kp, x, e1, e2, g1, g2, g3, g4, rfl, rfl⟩
      have hm : m = 0 := by
        cases m with
        | zero => rfl
        | succ m => rw [List.range'_succ] at e1; cases e1
      exact hR _ _ ⟨kv, kp, x, g1, by omega, fun j h1 h2 => g4 j (by omega) h2, rfl, rfl⟩
    · rintro d ds ρ S' W hW ⟨k, m, kv, kp, x, e1, e2, g1, g2, g3, g4, rfl, rfl⟩
      cases m with
      | zero => cases e1
      | succ m =>
        rw [List.range'_succ, List.map_cons] at e1
        injection e1 with e1 e3
        subst e1 e3
        have hk : k < ps.length := by omega
        have hgk : ps[k]? = some ps[k] := List.getElem?_eq_getElem hk
        have hgs := hg.g k _ hgk
        refine ifS_cut (decide (start + k ∈ U)) (fun Q' q => ?_) (fun hb3 => ?_) (fun hb3 => ?_)
        · clear hW hq hog g4 hU3 hk2
          walk_at "nd"
          rw [gIn_nat]
          exact ⟨_, rfl, q⟩
        · have hm := of_decide_eq_true hb3
          refine seq_cut (fun ρ S6 => ρ = [some (.int (start : Nat)), some (.ref g), some (.lst (ends.map nat)), some (.lst (U.map nat)), none, some (nat k), some (.ref a), none, some (.ref b)] ∧ S6 = sup (sup S2 a (.dic (putD kv (.inl ((start + k : Nat) : Int)) (nat (start + kp.length))))) b (gaO kp)) (fun Rest2 hR2 => ?_) ?_
          · clear hW hq hog g4 hU3 hk2 hR
            walk_at "nd"
            refine ⟨kv, by rw [sup_ne hba.symm, sup_same], .inl ((start + k : Nat) : Int), rfl, Nat.lt_of_lt_of_le (show kv.length < 1000 by omega) (sz5 (by omega)), hR2 _ _ ⟨rfl, ?_⟩⟩
            rw [sup_swap hba]
          rintro ρ S6 ⟨rfl, rfl⟩
          have g5 : ∀ j, j < start + k → (j < start ∨ j ∈ U) → valD (putD kv (.inl ((start + k : Nat) : Int)) (nat (start + kp.length))) (.inl (j : Nat)) = valD kv (.inl (j : Nat)) := fun j h1 _ => by
            rw [valD_put, if_neg (fun z => by injection z with z; omega)]
          generalize hkv : putD kv (.inl ((start + k : Nat) : Int)) (nat (start + kp.length)) = kv' at g5 ⊢
          have hev : sup (sup S2 a (.dic kv')) b (gaO kp) a = some (.dic kv') := by rw [sup_ne hba.symm, sup_same]
          have hgv : sup (sup S2 a (.dic kv')) b (gaO kp) g = some (gaO ps) := hog kv' kp
          have hbv : sup (sup S2 a (.dic kv')) b (gaO kp) b = some (gaO kp) := sup_same
          refine ⟨.ref b, rfl, ⟨_, _, rfl, hbv⟩, ?_⟩
          refine ⟨.ref g, rfl, nat k, rfl, DL.prD ps[k], ?_, ?_⟩
          · unfold ixP
            rw [vw_ref hgv]
            show atI (ps.map DL.prD) ((k : Nat) : Int) = _
            rw [atIn, List.getElem?_map, hgk]
            rfl
          have hU3k := hU3 k _ hgk hm
          obtain ⟨v1, w1, w2⟩ := g4 (ps[k].1 / 2) (by omega) (.inr hU3k.1)
          obtain ⟨v2, w3, w4⟩ := g4 (ps[k].2 / 2) (by omega) (.inr hU3k.2)
          rw [← g5 _ (by omega) (.inr hU3k.1)] at w1
          rw [← g5 _ (by omega) (.inr hU3k.2)] at w3
          show lcR 4 tdYes _ _ (([ps[k].1, ps[k].2]).map nat) [] _ _
          refine lcR_n (fun l => nat (num kv' l)) [ps[k].1, ps[k].2] [] _ (fun l hl Q' q => num_go hev ?_ q) (show 0 + 2 ≤ 100000 by omega) ?_
          · simp only [List.mem_cons, List.not_mem_nil, or_false] at hl
            rcases hl with rfl | rfl
            · exact ⟨v1, w1⟩
            · exact ⟨v2, w3⟩
          · skip
            dsimp only [tdNil, tdCons]
            refine gTuple_lst ?_
            refine ⟨b, _, rfl, hbv, by rw [List.length_map]; exact Nat.lt_of_lt_of_le (show kp.length < 1000 by omega) (sz5 (by omega)), ?_⟩
            refine hW _ _ ⟨k + 1, m, kv', kp ++ [(num kv' ps[k].1, num kv' ps[k].2)], _, rfl, by omega, ?_, by rw [List.length_append]; show kp.length + 1 ≤ _; omega, ?_, ?_, rfl, ?_⟩
            · refine g1.snoc ?_ ?_
              · rw [num_at w1]; omega
              · rw [num_at w3]; omega
            · rw [← hkv]
              have := put_len kv (.inl ((start + k : Nat) : Int)) (nat (start + kp.length))
              omega
            · intro j h1 h2
              rw [List.length_append]
              show ∃ v, _ ∧ v < start + (kp.length + 1)
              by_cases e : j = start + k
              · subst e
                refine ⟨start + kp.length, ?_, by omega⟩
                rw [← hkv, valD_put, if_pos rfl]
              · obtain ⟨v, v1, v2⟩ := g4 j (by omega) h2
                rw [← g5 j (by omega) h2] at v1
                exact ⟨v, v1, by omega⟩
            · rw [sup_sup, List.nil_append]
              show _ = sup _ b (.lst ((kp ++ [(num kv' ps[k].1, num kv' ps[k].2)]).map DL.prD))
              rw [List.map_append]
              rfl
        · have hm := of_decide_eq_false hb3
          refine hW _ _ ⟨k + 1, m, kv, kp, _, rfl, by omega, g1, by omega, by omega, fun j h1 h2 => ?_, rfl, rfl⟩
          by_cases e : j = start + k
          · subst e
            rcases h2 with z | z
            · exact absurd z (by omega)
            · exact absurd z hm
          · exact g4 j (by omega) h2
  rintro ρ S5 ⟨kv, kp, x, g1, g2, g3, rfl, rfl⟩
  have hev : sup (sup S2 a (.dic kv)) b (gaO kp) a = some (.dic kv) := by rw [sup_ne hba.symm, sup_same]
  have hnum : ∀ l ∈ ends, ∃ v, valD kv (.inl ((l / 2 : Nat) : Int)) = some (nat v) ∧ v < start + kp.length := fun l hl => g3 (l / 2) (by have := hb2 l hl; omega) (.inr (hU1 l hl))
  refine ⟨.ref b, rfl, ?_⟩
  dsimp only [tdNil, tdCons]
  refine gTuple_ref (ds := kp.map DL.prD) sup_same ?_
  refine ⟨.lst (ends.map nat), rfl, ?_⟩
  refine lcR_n (fun l => nat (num kv l)) ends [] _ (fun l hl Q' q => num_go hev (by
    obtain ⟨v, h1, _⟩ := hnum l hl
    exact ⟨v, h1⟩) q) (show 0 + ends.length ≤ _ by omega) ?_
  have e1 : (ends.map fun l => nat (num kv l)) = (ends.map (num kv)).map nat := by rw [List.map_map]; rfl
  rw [List.nil_append, e1]
  refine ⟨sz5 (show 2 ≤ 1000000 by decide), fini (hq kp (ends.map (num kv)) _ (Sub.sup2 (Sub.sup ha) hb0) g1 g2 (List.length_map _) fun l hl => ?_)⟩
  obtain ⟨l0, h0, rfl⟩ := List.mem_map.mp hl
  obtain ⟨v, h1, h2⟩ := hnum l0 h0
  rw [num_at h1]
  omega
end K07
namespace K07
open PySem PySem.Spec L2 DL
local macro_rules | `(tactic| walk_at "nd") => `(tactic| simp only [icO, isN0, gStr, tdiE, tdiZT, gSortND, gSortL, gSortDX, tdListVals, tdSortItems, tdiVals, gDictC, tdLck, tdSetd, tdExt, gIntT, tdTruT, tdRaise0, gTupP, tdPt, gDictT, tdLc2T, tdLcN, gLenN, tdValsI, tdSortSet, gCatB, gEq_bb, tdLcB, tdDNew, tdNNew, tdNGet, tdNPut, tdFGet, tdiF, tdDctF, tdDc, tdDcN, tdTru, tdDAugG, tdDictZ, tdCallV, tdLc2, ln_4, ln_5, ln_6, fmod_2, fdiv_2, gAddT, tdIdx, gdUnl, tdiD, gSortI, gMin2, gMax2, gTuple, gDictP, tdLcT, lcT, setD, unsetD, tdKGet, tdKGet2, tdGet2, tdPop, tdSeq, tdAsg, tdV, gdName, tdAnd, tdOr, tdNot, tdB, tdOp, tdCB, tdCons, tdNil, tdC, tdAug, tdSl, tdP, tdRet, tdTup, tdIf, tdIfS, gOrd, gI0, gI, gLen, gIx, gAdd, gInt, vw, ixP, gSl, tdDrop, tdRetN, tdNext, gIn_sc, gIn_ts, gIn_ls, gIn_t2, gIn_l2, gIn_l4, tdApp, sl_0, sl_1, sl_2, sl_3, sl_4, sl_5, ff, tt', true_and, id,
  eqS, tdFor, tdiT, tdiL, tdiR, tdXp, gList, gEq_ns, tdJoin, gJoin, vwS, gMul, gMod, gDiv, gPow, gI, tdAugS, gdSub, gSet, ixN_2, ixN_3, atI_3, atI_4, gEq_ss, gEq_ii, tdDict, tdPairs, tdNeg, Option.isNone_none, Option.isNone_some, gIsi, tdGet, tdDPut, tdDAug, tdIsN, tdNotN, DO.dic.injEq, Option.isNone_none, Option.isNone_some, gIn_l2, gIn_t2, Option.getD_some, tdLc, gMax, tdNoP, forR, tdRaise, tdCall, tdNotV, tdAndV, tdOrV, tdBox, tdZ, gdTup, gdCons, gdNil, tdBreak, tdCont, tdYes, icast, icast1, icast2, icast3, tdLst, gIn_l4, icastL, icastE, icastZ, ln_0, ln_1, ln_2, ln_3,
  List.getElem?_cons_zero, List.getElem?_cons_succ, List.set_cons_zero, List.set_cons_succ, Option.some.injEq, exists_eq_left', exists_eq_left, D.bl.injEq, decide_eq_true_eq,
  tdFldC, tdMeth, tdMake, tdPutF, tdAugF, D.ref.injEq, DO.ins.injEq, and_assoc, DL.gSub, D.int.injEq, D.str.injEq, sup_same, eq_self, not_true_eq_false, not_false_eq_true, Bool.false_eq_true, Bool.not_eq_true, decide_not, atIn, atI_0, atI_1, atI_2, List.getElem?_map, Option.map_some, Option.map_none, decide_true, decide_false, Bool.not_true, Bool.not_false, if_true, if_false, lm_0, lm_1, lm_2, List.length_map, exists_and_left, *])
variable {P : Program} {w : World} {K : PySem.W.Frag} {mg : Str → Option Value} {base : Heap}
/-- the drawer's list -/
def DrO (o : DO) : Prop := ∃ ns p big seed, o = stO ns p big seed ∧ StOk big seed
theorem next_go {a : Addr} {S : Store} {o : DO} {lim : Nat} {Q : D → Store → Prop} {E : XD} (h : S a = some o) (ho : DrO o) (h0 : 0 < lim) (h1 : lim ≤ 100000) (q : ∀ (r : Nat) (o' : DO), r < lim → DrO o' → Q (.int (r : Nat)) (sup S a o')) :
    m_law_next [.ref a, .int (lim : Nat)] S Q E := by
  obtain ⟨ns, p, big, seed, rfl, hs⟩ := ho
  exact ⟨a, ns, p, big, seed, lim, rfl, h, hs, h0, h1, fun r p' big' seed' hr hs' => q r _ hr ⟨ns, p', big', seed', rfl, hs'⟩⟩
/-- what a walk that draws keeps -/
structure Dw (a : Addr) (S0 S : Store) : Prop where
  o : ∃ o, DrO o ∧ S a = some o
  k : ∀ b u, b ≠ a → S0 b = some u → S b = some u
theorem next_w {a : Addr} {S0 S : Store} {lim : Nat} {Q : D → Store → Prop} {E : XD} (h : Dw a S0 S) (h0 : 0 < lim) (h1 : lim ≤ 100000)
    (q : ∀ (r : Nat) (S' : Store), r < lim → Dw a S0 S' → (∀ b u, b ≠ a → S b = some u → S' b = some u) → Q (.int (r : Nat)) S') : m_law_next [.ref a, .int (lim : Nat)] S Q E := by
  obtain ⟨⟨o, ho, ha⟩, k⟩ := h
  refine next_go ha ho h0 h1 fun r o' hr ho' => q r _ hr ⟨⟨o', ho', sup_same⟩, fun b u hb e => ?_⟩ fun b u hb e => ?_
  · rw [sup_ne hb]; exact k b u hb e
  · rw [sup_ne hb]; exact e
theorem Dw.init {a : Addr} {S : Store} {o : DO} (h : S a = some o) (ho : DrO o) : Dw a S S := ⟨⟨o, ho, h⟩, fun _ _ _ e => e⟩
theorem Dw.ne {a p : Addr} {S0 S : Store} (h : Dw a S0 S) (hp : S p = none) : p ≠ a ∧ S0 p = none := by
  obtain ⟨o, _, ha⟩ := h.o
  have hpa : p ≠ a := fun z => by rw [z, ha] at hp; cases hp
  refine ⟨hpa, ?_⟩
  cases q : S0 p with
  | none => rfl
  | some u => rw [h.k p u hpa q] at hp; cases hp
theorem Dw.put {a p : Addr} {S0 S : Store} {o : DO} (h : Dw a S0 S) (hp : p ≠ a) (h0 : S0 p = none) : Dw a S0 (sup S p o) := by
  obtain ⟨⟨o', ho, ha⟩, k⟩ := h
  refine ⟨⟨o', ho, by rw [sup_ne hp.symm]; exact ha⟩, fun b u hb e => ?_⟩
  rw [sup_ne (fun z => by rw [z, h0] at e; cases e)]
  exact k b u hb e
theorem Dw.del {a p : Addr} {S0 S : Store} (h : Dw a S0 S) (hp : p ≠ a) (h0 : S0 p = none) : Dw a S0 (sdel S p) := by
  obtain ⟨⟨o', ho, ha⟩, k⟩ := h
  refine ⟨⟨o', ho, by unfold sdel; rw [if_neg hp.symm]; exact ha⟩, fun b u hb e => ?_⟩
  unfold sdel
  rw [if_neg (fun z => by rw [z, h0] at e; cases e)]
  exact k b u hb e
/-- a step of a drawn design -/
structure Sp1 where
  w : Tx
  a : Nat
  t : Nat
  b : Nat
  u : Nat
def Sp1.d (s : Sp1) : D := .tup [.str s.w, .tup [nat s.a, nat s.t], .tup [nat s.b, nat s.u]]
def Sp1.ok (src k : Nat) (s : Sp1) : Prop := (s.w = tx "and" ∨ s.w = tx "or" ∨ s.w = tx "unlike") ∧ s.a < src + k ∧ s.b < src + k ∧ s.t < 2 ∧ s.u < 2
def SpOk (src : Nat) (l : List Sp1) : Prop := ∀ (k : Nat) (s : Sp1), l[k]? = some s → s.ok src k
def endD (p : Nat × Nat) : D := .tup [nat p.1, nat p.2]
theorem lcR_ind {v : Nat} {te : TD} {ρ : Rho} {Q : List D → Store → Prop} (J : List D → List D → Store → Prop) (h0 : ∀ acc S, J [] acc S → Q acc S)
    (h : ∀ d ds acc S (W : D → Store → Prop), (∀ y S', J ds (acc ++ [y]) S' → W y S') → J (d :: ds) acc S → te (ρ.set v (some d)) S fun y S' => acc.length < sizeLine ∧ W y S') :
    ∀ (ds acc : List D) (S : Store), J ds acc S → lcR v tdYes te ρ ds acc S Q
  | [], acc, S, j => h0 acc S j
  | d :: ds, acc, S, j => by
    unfold lcR
    show if true = true then (te (ρ.set v (some d)) S fun y S2 => acc.length < sizeLine ∧ lcR v tdYes te ρ ds (acc ++ [y]) S2 Q) else (lcR v tdYes te ρ ds acc S Q)
    exact iteT (h d ds acc S _ (fun y S' j' => lcR_ind J h0 h ds (acc ++ [y]) S' j') j)
def m_design : M := fun ds S Q E => ∃ (a : Addr) (o : DO) (ins regs most : Nat), ds = [.ref a, .int (ins : Nat), .int (regs : Nat), .int (most : Nat)] ∧ S a = some o ∧ DrO o ∧ 1 ≤ ins ∧ ins ≤ 4 ∧ 0 ≤ regs ∧ regs ≤ 4 ∧ 1 ≤ most ∧ most ≤ 10 ∧
  ∀ (o' : DO) (fs : List Bool) (sps : List Sp1) (es : List (Nat × Nat)), DrO o' → fs.length = regs → SpOk (ins + regs) sps → sps.length ≤ most → es.length ≤ 3 + regs → regs < es.length → (∀ e ∈ es, e.1 < ins + regs + sps.length ∧ e.2 < 2) →
    ∀ S', (∀ b u, b ≠ a → S b = some u → S' b = some u) → S' a = some o' → Q (.tup [.int (ins : Nat), .lst (fs.map D.bl), .lst (sps.map Sp1.d), .lst (es.map endD)]) S'
theorem d__law_design (Z : Zf P w K mg base) : Ca P w K mg base 2 "_law_design" ["state", "inputs", "registers", "most"] m_design := by
  obtain ⟨fd, F, hb⟩ := Z.F__law_design
  refine ⟨_, fd, df_of (k := 1) F sc__law_design (fun cdv A outer s H E F0 E' B => (dss_cons (ds_set 4 nd__law_design (de_box da_nil))
    (dss_cons (ds_set 5 nd__law_design (de_op od_addT (dv 1) (dv 2)))
    (dss_cons (ds_for (passes_of rfl) rfl (di_rng rfl Z.f_range (da_cons (de_op od_addT de_int (de_ca (d__law_next Z) (B.mono (by omega)) rfl (da_cons (dv 0) (da_cons (dv 3) da_nil)))) da_nil)) (dg_name 6 nd__law_design) (dss_cons (ds_set 7 nd__law_design (de_ix (de_lst (da_cons de_str (da_cons de_str (da_cons de_str (da_cons de_str da_nil))))) (de_ca (d__law_next Z) (B.mono (by omega)) rfl (da_cons (dv 0) (da_cons de_int da_nil)))))
    (dss_cons (ds_set 8 nd__law_design (de_ca (d__law_next Z) (B.mono (by omega)) rfl (da_cons (dv 0) (da_cons (de_op od_addT (dv 5) (dv 6)) da_nil))))
    (dss_cons (ds_if (PW.pt (dw_and (dt_cmp (od_ord op_gt) (dv 6) de_int rfl) (dw_and1 (dt_cmp (od_ord op_gt) (de_ca (d__law_next Z) (B.mono (by omega)) rfl (da_cons (dv 0) (da_cons de_int da_nil))) de_int rfl)))) (dss_one (ds_set 8 nd__law_design (de_op od_addT (dv 5) (de_cB (oc_max2 rfl) rfl Z.f_max bb_max (da_cons de_int (da_cons (de_op od_sub (de_op od_sub (dv 6) de_int) (de_ca (d__law_next Z) (B.mono (by omega)) rfl (da_cons (dv 0) (da_cons de_int da_nil)))) da_nil)))))) dss_nil)
    (dss_cons (ds_set 9 nd__law_design (de_ca (d__law_next Z) (B.mono (by omega)) rfl (da_cons (dv 0) (da_cons (de_op od_addT (dv 5) (dv 6)) da_nil))))
    (dss_cons (ds_if (PW.pt (dw_and (dt_cmp (od_eq B.units) (dv 9) (dv 8) rfl) (dw_and1 (dt_cmp (od_ord op_gt) (de_ca (d__law_next Z) (B.mono (by omega)) rfl (da_cons (dv 0) (da_cons de_int da_nil))) de_int rfl)))) (dss_one (ds_set 9 nd__law_design (de_if (dt_cmp (od_ord op_gt) (dv 8) de_int rfl) (de_op od_sub (dv 8) de_int) (de_cB (oc_min2 rfl) rfl Z.f_min bb_min (da_cons de_int (da_cons (de_op od_sub (de_op od_addT (dv 5) (dv 6)) de_int) da_nil)))))) dss_nil)
    (dss_one (ds_expr (de_app (dv 4) (de_tup (da_cons (dv 7) (da_cons (de_tup (da_cons (dv 8) (da_cons (de_ca (d__law_next Z) (B.mono (by omega)) rfl (da_cons (dv 0) (da_cons de_int da_nil))) da_nil))) (da_cons (de_tup (da_cons (dv 9) (da_cons (de_ca (d__law_next Z) (B.mono (by omega)) rfl (da_cons (dv 0) (da_cons de_int da_nil))) da_nil))) da_nil)))))))))))))
    (dss_cons (ds_set 10 nd__law_design (de_box da_nil))
    (dss_cons (ds_for (passes_of rfl) rfl (di_rng rfl Z.f_range (da_cons (de_op od_addT (de_op od_addT de_int (de_ca (d__law_next Z) (B.mono (by omega)) rfl (da_cons (dv 0) (da_cons de_int da_nil)))) (dv 2)) da_nil)) (dg_name 6 nd__law_design) (dss_cons (ds_set 11 nd__law_design (de_ca (d__law_next Z) (B.mono (by omega)) rfl (da_cons (dv 0) (da_cons (de_op od_addT (dv 5) (de_cB oc_len rfl Z.f_len bb_len (da_cons (dv 4) da_nil))) da_nil))))
    (dss_cons (ds_if (dt_cmp (od_ord op_gt) (de_ca (d__law_next Z) (B.mono (by omega)) rfl (da_cons (dv 0) (da_cons de_int da_nil))) de_int rfl) (dss_one (ds_set 11 nd__law_design (de_cB (oc_max2 rfl) rfl Z.f_max bb_max (da_cons de_int (da_cons (de_op od_sub (de_op od_sub (de_op od_addT (dv 5) (de_cB oc_len rfl Z.f_len bb_len (da_cons (dv 4) da_nil))) de_int) (de_ca (d__law_next Z) (B.mono (by omega)) rfl (da_cons (dv 0) (da_cons de_int da_nil)))) da_nil))))) dss_nil)
    (dss_one (ds_expr (de_app (dv 10) (de_tup (da_cons (dv 11) (da_cons (de_ca (d__law_next Z) (B.mono (by omega)) rfl (da_cons (dv 0) (da_cons de_int da_nil))) da_nil)))))))))
    (dss_cons (ds_setLc 12 rfl nd__law_design rfl rfl (sw_true rfl rfl rfl (by decide +kernel)) (di_rng rfl Z.f_range (da_cons (dv 2) da_nil)) (blkOk_by (own := [("k", 6)]) (N := N__law_design) (sc := defScope st__law_design) (by decide +kernel)) (fun _ _ _ _ _ => pg_name (i := 6) nd__law_design rfl (Or.inl rfl)) (fun _ _ _ _ _ => dts_nil) (fun _ _ _ _ _ => (de_cmp (od_eq B.blk.units) (de_ca (d__law_next Z) (B.blk.mono (by omega)) rfl (da_cons (dv 0) (da_cons de_int da_nil))) de_int rfl)))
    (dss_one (ds_ret (de_tup (da_cons (dv 1) (da_cons (dv 12) (da_cons (dz 4) (da_cons (dz 10) da_nil)))))))))))))) ?_, Z.g__law_design, F.kp, hb⟩
  rintro ds S Q E hl ⟨a, o, ins, regs, most, rfl, ha, ho, h1, h2, h3, h4, h5, h6, hq⟩
  rw [show startD N__law_design [.ref a, .int (ins : Nat), .int (regs : Nat), .int (most : Nat)] = [some (.ref a), some (.int (ins : Nat)), some (.int (regs : Nat)), some (.int (most : Nat)), none, none, none, none, none, none, none, none, none] from rfl]
  clear hl
  refine seq_cut (fun ρ S1 => ∃ p, p ≠ a ∧ S p = none ∧ ρ = [some (.ref a), some (.int (ins : Nat)), some (.int (regs : Nat)), some (.int (most : Nat)), some (.ref p), none, none, none, none, none, none, none, none] ∧ S1 = sup S p (.lst [])) (fun Rest hR => ?_) ?_
  · walk_at "nd"
    exact fun p hp => hR _ _ ⟨p, ((Dw.init ha ho).ne hp).1, hp, rfl, rfl⟩
  rintro ρ S1 ⟨p, hpa, hp, rfl, rfl⟩
  refine seq_cut (fun ρ S2 => ρ = [some (.ref a), some (.int (ins : Nat)), some (.int (regs : Nat)), some (.int (most : Nat)), some (.ref p), some (.int (ins + regs : Nat)), none, none, none, none, none, none, none] ∧ S2 = sup S p (.lst [])) (fun Rest hR => ?_) ?_
  · walk_at "nd"
  rintro ρ S2 ⟨rfl, rfl⟩
  have hd0 : Dw a S (sup S p (.lst [])) := (Dw.init ha ho).put hpa hp
  generalize hsrc : ins + regs = src
  refine seq_cut (fun ρ S3 => ∃ (sps : List Sp1) (x6 x7 x8 x9 : Option D), ρ = [some (.ref a), some (.int (ins : Nat)), some (.int (regs : Nat)), some (.int (most : Nat)), some (.ref p), some (.int (src : Nat)), x6, x7, x8, x9, none, none, none] ∧ SpOk src sps ∧ sps.length ≤ most ∧ 1 ≤ sps.length ∧ Dw a S S3 ∧ S3 p = some (.lst (sps.map Sp1.d))) (fun Rest hR => ?_) ?_
  · walk_at "nd"
    refine next_w hd0 (by omega) (by omega) fun r S3 hr hd1 hk1 => ?_
    walk_at "nd"
    refine ⟨by omega, by omega, ?_⟩
    rw [rng_nat]
    have hp3 := hk1 p _ hpa sup_same
    clear hk1 hq
    refine for_ind (fun ds ρ S' => ∃ (j m : Nat) (sps : List Sp1) (x6 x7 x8 x9 : Option D), ds = (List.range' j m).map nat ∧ j + m = 1 + r ∧ sps.length = j ∧ SpOk src sps ∧
      ρ = [some (.ref a), some (.int (ins : Nat)), some (.int (regs : Nat)), some (.int (most : Nat)), some (.ref p), some (.int (src : Nat)), x6, x7, x8, x9, none, none, none] ∧ Dw a S S' ∧ S' p = some (.lst (sps.map Sp1.d))) ?_ ?_ _ _ _
      ⟨0, 1 + r, [], none, none, none, none, rfl, by omega, rfl, fun k s h => by simp at h, rfl, hd1, hp3⟩
    · rintro ρ S' ⟨j, m, sps, x6, x7, x8, x9, e1, e2, e3, e4, rfl, hd, hp'⟩
      have hm : m = 0 := by
        cases m with
        | zero => rfl
        | succ m => rw [List.range'_succ] at e1; cases e1
      exact hR _ _ ⟨sps, x6, x7, x8, x9, rfl, e4, by omega, by omega, hd, hp'⟩
    · rintro d ds ρ S' W hW ⟨j, m, sps, x6, x7, x8, x9, e1, e2, e3, e4, rfl, hd, hp'⟩
      cases m with
      | zero => cases e1
      | succ m =>
        rw [List.range'_succ, List.map_cons] at e1
        injection e1 with e1 e5
        subst e1 e5
        clear hR
        show tdSeq _ _ _ [some (.ref a), some (.int (ins : Nat)), some (.int (regs : Nat)), some (.int (most : Nat)), some (.ref p), some (.int (src : Nat)), some (nat j), x7, x8, x9, none, none, none] S'
        have hsrc2 : 1 ≤ src := by omega
        refine seq_cut (fun ρ S1 => ∃ wd, ρ = [some (.ref a), some (.int (ins : Nat)), some (.int (regs : Nat)), some (.int (most : Nat)), some (.ref p), some (.int (src : Nat)), some (nat j), some (.str wd), x8, x9, none, none, none] ∧ (wd = tx "and" ∨ wd = tx "or" ∨ wd = tx "unlike") ∧ Dw a S S1 ∧ S1 p = some (.lst (sps.map Sp1.d))) (fun Rest hR => ?_) ?_
        · clear hW
          walk_at "nd"
          refine next_w (lim := 4) hd (by omega) (by omega) fun q S1 hr2 hd2 hk2 => ?_
          have hp2 := hk2 p _ hpa hp'
          obtain rfl | rfl | rfl | rfl : q = 0 ∨ q = 1 ∨ q = 2 ∨ q = 3 := by omega
          · exact ⟨_, rfl, hR _ _ ⟨_, rfl, .inl rfl, hd2, hp2⟩⟩
          · exact ⟨_, rfl, hR _ _ ⟨_, rfl, .inr (.inl rfl), hd2, hp2⟩⟩
          · exact ⟨_, rfl, hR _ _ ⟨_, rfl, .inl rfl, hd2, hp2⟩⟩
          · exact ⟨_, rfl, hR _ _ ⟨_, rfl, .inr (.inr rfl), hd2, hp2⟩⟩
        clear hp' hd
        rintro ρ S2 ⟨wd, rfl, hwd, hd, hp'⟩
        refine seq_cut (fun ρ S1 => ∃ fi : Nat, fi < src + j ∧ ρ = [some (.ref a), some (.int (ins : Nat)), some (.int (regs : Nat)), some (.int (most : Nat)), some (.ref p), some (.int (src : Nat)), some (nat j), some (.str wd), some (nat fi), x9, none, none, none] ∧ Dw a S S1 ∧ S1 p = some (.lst (sps.map Sp1.d))) (fun Rest hR => ?_) ?_
        · clear hW
          walk_at "nd"
          refine next_w (lim := src + j) hd (by omega) (by omega) fun q S1 hr2 hd2 hk2 => ?_
          exact hR _ _ ⟨q, hr2, rfl, hd2, hk2 p _ hpa hp'⟩
        clear hp' hd
        rintro ρ S2 ⟨fi, hfi, rfl, hd, hp'⟩
        refine seq_cut (fun ρ S1 => ∃ fi : Nat, fi < src + j ∧ ρ = [some (.ref a), some (.int (ins : Nat)), some (.int (regs : Nat)), some (.int (most : Nat)), some (.ref p), some (.int (src : Nat)), some (nat j), some (.str wd), some (nat fi), x9, none, none, none] ∧ Dw a S S1 ∧ S1 p = some (.lst (sps.map Sp1.d))) (fun Rest hR => ?_) ?_
        · clear hW
          have hout := hR _ _ ⟨fi, hfi, rfl, hd, hp'⟩
          walk_at "nd"
          split
          · refine next_w (lim := 4) hd (by omega) (by omega) fun q S1 hr2 hd2 hk2 => ?_
            show if (0 : Int) < (q : Int) then _ else _
            have hp2 := hk2 p _ hpa hp'
            split
            · refine next_w (lim := 3) hd2 (by omega) (by omega) fun q2 S3 hr3 hd3 hk3 => ?_
              show Rest [_, _, _, _, _, _, _, _, some (.int ((src : Int) + max 0 ((j : Int) - 1 - (q2 : Int)))), _, _, _, _] S3
              have e : (src : Int) + max 0 ((j : Int) - 1 - (q2 : Int)) = ((src + (j - 1 - q2) : Nat) : Int) := by omega
              rw [e]
              exact hR _ _ ⟨src + (j - 1 - q2), by omega, rfl, hd3, hk3 p _ hpa hp2⟩
            · exact hR _ _ ⟨fi, hfi, rfl, hd2, hp2⟩
          · trivial
        clear hp' hd hfi
        clear fi
        rintro ρ S2 ⟨fi, hfi, rfl, hd, hp'⟩
        refine seq_cut (fun ρ S1 => ∃ se : Nat, se < src + j ∧ ρ = [some (.ref a), some (.int (ins : Nat)), some (.int (regs : Nat)), some (.int (most : Nat)), some (.ref p), some (.int (src : Nat)), some (nat j), some (.str wd), some (nat fi), some (nat se), none, none, none] ∧ Dw a S S1 ∧ S1 p = some (.lst (sps.map Sp1.d))) (fun Rest hR => ?_) ?_
        · clear hW
          walk_at "nd"
          refine next_w (lim := src + j) hd (by omega) (by omega) fun q S1 hr2 hd2 hk2 => ?_
          exact hR _ _ ⟨q, hr2, rfl, hd2, hk2 p _ hpa hp'⟩
        clear hp' hd
        rintro ρ S2 ⟨se, hse, rfl, hd, hp'⟩
        refine seq_cut (fun ρ S1 => ∃ se : Nat, se < src + j ∧ ρ = [some (.ref a), some (.int (ins : Nat)), some (.int (regs : Nat)), some (.int (most : Nat)), some (.ref p), some (.int (src : Nat)), some (nat j), some (.str wd), some (nat fi), some (nat se), none, none, none] ∧ Dw a S S1 ∧ S1 p = some (.lst (sps.map Sp1.d))) (fun Rest hR => ?_) ?_
        · clear hW
          have hout := hR _ _ ⟨se, hse, rfl, hd, hp'⟩
          walk_at "nd"
          split
          · refine next_w (lim := 8) hd (by omega) (by omega) fun q S1 hr2 hd2 hk2 => ?_
            show if (0 : Int) < (q : Int) then _ else _
            have hp2 := hk2 p _ hpa hp'
            split
            · show if (0 : Int) < (fi : Int) then Rest [_, _, _, _, _, _, _, _, _, some (.int ((fi : Int) - 1)), _, _, _] S1 else Rest [_, _, _, _, _, _, _, _, _, some (.int (min 1 (((src + j : Nat) : Int) - 1))), _, _, _] S1
              split
              · have e : (fi : Int) - 1 = ((fi - 1 : Nat) : Int) := by omega
                rw [e]
                exact hR _ _ ⟨fi - 1, by omega, rfl, hd2, hp2⟩
              · have e : min 1 (((src + j : Nat) : Int) - 1) = ((min 1 (src + j - 1) : Nat) : Int) := by omega
                rw [e]
                exact hR _ _ ⟨min 1 (src + j - 1), by omega, rfl, hd2, hp2⟩
            · exact hR _ _ ⟨se, hse, rfl, hd2, hp2⟩
          · trivial
        clear hp' hd hse
        clear se
        rintro ρ S2 ⟨se, hse, rfl, hd, hp'⟩
        walk_at "nd"
        refine ⟨⟨_, rfl⟩, next_w (lim := 2) hd (by omega) (by omega) fun q S1 hr2 hd2 hk2 => ?_⟩
        have hp2 := hk2 p _ hpa hp'
        refine next_w (lim := 2) hd2 (by omega) (by omega) fun q2 S4 hr4 hd4 hk4 => ?_
        have hp4 := hk4 p _ hpa hp2
        refine ⟨_, hp4, by rw [List.length_map]; exact Nat.lt_of_lt_of_le (show sps.length < 1000 by omega) (sz5 (by omega)), ?_⟩
        refine hW _ _ ⟨j + 1, m, sps ++ [⟨wd, fi, q, se, q2⟩], some (nat j), some (.str wd), some (nat fi), some (nat se), rfl, by omega, by rw [List.length_append]; show sps.length + 1 = _; omega, fun k s hk => ?_, rfl, hd4.put hpa hp, by rw [sup_same, List.map_append]; rfl⟩
        by_cases hkl : k < sps.length
        · rw [List.getElem?_append_left hkl] at hk
          exact e4 k s hk
        · have hlt := (List.getElem?_eq_some_iff.mp hk).1
          rw [List.length_append] at hlt
          have hlt : k < sps.length + 1 := hlt
          have ek : k = sps.length := by omega
          subst ek
          rw [List.getElem?_append_right (Nat.le_refl _), Nat.sub_self] at hk
          cases hk
          rw [e3]
          exact ⟨hwd, hfi, hse, hr2, hr4⟩
  rintro ρ S3 ⟨sps, x6, x7, x8, x9, rfl, hok, hl1, hl2, hd, hp3⟩
  clear hd0
  refine seq_cut (fun ρ S4 => ∃ q, q ≠ a ∧ q ≠ p ∧ S q = none ∧ ρ = [some (.ref a), some (.int (ins : Nat)), some (.int (regs : Nat)), some (.int (most : Nat)), some (.ref p), some (.int (src : Nat)), x6, x7, x8, x9, some (.ref q), none, none] ∧ Dw a S S4 ∧ S4 p = some (.lst (sps.map Sp1.d)) ∧ S4 q = some (.lst [])) (fun Rest hR => ?_) ?_
  · clear hq
    walk_at "nd"
    refine fun q hq => hR _ _ ⟨q, (hd.ne hq).1, (fun z => by rw [z, hp3] at hq; cases hq), (hd.ne hq).2, rfl, hd.put (hd.ne hq).1 (hd.ne hq).2, ?_, sup_same⟩
    rw [sup_ne (fun z => by rw [← z, hp3] at hq; cases hq)]
    exact hp3
  clear hd hp3
  rintro ρ S4 ⟨q, hqa, hqp, hq0, rfl, hd, hp4, hq4⟩
  refine seq_cut (fun ρ S5 => ∃ (es : List (Nat × Nat)) (x6 x11 : Option D), es.length ≤ 3 + regs ∧ regs < es.length ∧ (∀ e ∈ es, e.1 < src + sps.length ∧ e.2 < 2) ∧
    ρ = [some (.ref a), some (.int (ins : Nat)), some (.int (regs : Nat)), some (.int (most : Nat)), some (.ref p), some (.int (src : Nat)), x6, x7, x8, x9, some (.ref q), x11, none] ∧ Dw a S S5 ∧ S5 p = some (.lst (sps.map Sp1.d)) ∧ S5 q = some (.lst (es.map endD))) (fun Rest hR => ?_) ?_
  · clear hq
    walk_at "nd"
    refine next_w (lim := 3) hd (by omega) (by omega) fun r S3 hr hd1 hk1 => ?_
    walk_at "nd"
    refine ⟨by omega, by omega, ?_⟩
    rw [rng_nat]
    have hp5 := hk1 p _ hpa hp4
    have hq5 := hk1 q _ hqa hq4
    clear hk1
    refine for_ind (fun ds ρ S' => ∃ (j m : Nat) (es : List (Nat × Nat)) (x6 x11 : Option D), ds = (List.range' j m).map nat ∧ j + m = 1 + r + regs ∧ es.length = j ∧ (∀ e ∈ es, e.1 < src + sps.length ∧ e.2 < 2) ∧
      ρ = [some (.ref a), some (.int (ins : Nat)), some (.int (regs : Nat)), some (.int (most : Nat)), some (.ref p), some (.int (src : Nat)), x6, x7, x8, x9, some (.ref q), x11, none] ∧ Dw a S S' ∧ S' p = some (.lst (sps.map Sp1.d)) ∧ S' q = some (.lst (es.map endD))) ?_ ?_ _ _ _
      ⟨0, 1 + r + regs, [], x6, none, rfl, by omega, rfl, (fun e h => nomatch h), rfl, hd1, hp5, hq5⟩
    · rintro ρ S' ⟨j, m, es, x6, x11, e1, e2, e3, e4, rfl, hd, hp', hq'⟩
      have hm : m = 0 := by
        cases m with
        | zero => rfl
        | succ m => rw [List.range'_succ] at e1; cases e1
      exact hR _ _ ⟨es, x6, x11, by omega, by omega, e4, rfl, hd, hp', hq'⟩
    · clear hd hp4 hq4 hd1 hp5 hq5
      rintro d ds ρ S' W hW ⟨j, m, es, x6, x11, e1, e2, e3, e4, rfl, hd, hp', hq'⟩
      cases m with
      | zero => cases e1
      | succ m =>
        rw [List.range'_succ, List.map_cons] at e1
        injection e1 with e1 e5
        subst e1 e5
        clear hR
        show tdSeq _ _ _ [some (.ref a), some (.int (ins : Nat)), some (.int (regs : Nat)), some (.int (most : Nat)), some (.ref p), some (.int (src : Nat)), some (nat j), x7, x8, x9, some (.ref q), x11, none] S'
        refine seq_cut (fun ρ S1 => ∃ pk : Nat, pk < src + sps.length ∧ ρ = [some (.ref a), some (.int (ins : Nat)), some (.int (regs : Nat)), some (.int (most : Nat)), some (.ref p), some (.int (src : Nat)), some (nat j), x7, x8, x9, some (.ref q), some (nat pk), none] ∧ Dw a S S1 ∧ S1 p = some (.lst (sps.map Sp1.d)) ∧ S1 q = some (.lst (es.map endD))) (fun Rest hR => ?_) ?_
        · clear hW
          walk_at "nd"
          refine next_w (lim := src + sps.length) hd (by omega) (by omega) fun t S1 hr2 hd2 hk2 => ?_
          exact hR _ _ ⟨t, hr2, rfl, hd2, hk2 p _ hpa hp', hk2 q _ hqa hq'⟩
        clear hp' hd hq'
        rintro ρ S2 ⟨pk, hpk, rfl, hd, hp', hq'⟩
        refine seq_cut (fun ρ S1 => ∃ pk : Nat, pk < src + sps.length ∧ ρ = [some (.ref a), some (.int (ins : Nat)), some (.int (regs : Nat)), some (.int (most : Nat)), some (.ref p), some (.int (src : Nat)), some (nat j), x7, x8, x9, some (.ref q), some (nat pk), none] ∧ Dw a S S1 ∧ S1 p = some (.lst (sps.map Sp1.d)) ∧ S1 q = some (.lst (es.map endD))) (fun Rest hR => ?_) ?_
        · clear hW
          walk_at "nd"
          refine next_w (lim := 3) hd (by omega) (by omega) fun t S1 hr2 hd2 hk2 => ?_
          have hp2 := hk2 p _ hpa hp'
          have hq2 := hk2 q _ hqa hq'
          walk_at "nd"
          split
          · refine next_w (lim := 3) hd2 (by omega) (by omega) fun q2 S3 hr3 hd3 hk3 => ?_
            show Rest [_, _, _, _, _, _, _, _, _, _, _, some (.int (max 0 (((src + sps.length : Nat) : Int) - 1 - (q2 : Int)))), _] S3
            have e : max 0 (((src + sps.length : Nat) : Int) - 1 - (q2 : Int)) = ((src + sps.length - 1 - q2 : Nat) : Int) := by omega
            rw [e]
            exact hR _ _ ⟨src + sps.length - 1 - q2, by omega, rfl, hd3, hk3 p _ hpa hp2, hk3 q _ hqa hq2⟩
          · exact hR _ _ ⟨pk, hpk, rfl, hd2, hp2, hq2⟩
        clear hp' hd hq' hpk
        clear pk
        rintro ρ S2 ⟨pk, hpk, rfl, hd, hp', hq'⟩
        walk_at "nd"
        refine ⟨⟨_, rfl⟩, next_w (lim := 2) hd (by omega) (by omega) fun t S1 hr2 hd2 hk2 => ?_⟩
        have hp2 := hk2 p _ hpa hp'
        have hq2 := hk2 q _ hqa hq'
        refine ⟨_, hq2, by rw [List.length_map]; exact Nat.lt_of_lt_of_le (show es.length < 1000 by omega) (sz5 (by omega)), ?_⟩
        refine hW _ _ ⟨j + 1, m, es ++ [(pk, t)], some (nat j), some (nat pk), rfl, by omega, by rw [List.length_append]; show es.length + 1 = _; omega, fun e he => ?_, rfl, hd2.put hqa hq0, ?_, by rw [sup_same, List.map_append]; rfl⟩
        · rcases List.mem_append.mp he with he | he
          · exact e4 e he
          · rw [List.mem_singleton.mp he]
            exact ⟨hpk, hr2⟩
        · rw [sup_ne hqp.symm]
          exact hp2
  clear hd hp4 hq4
  rintro ρ S5 ⟨es, y6, x11, he1, he2, he3, rfl, hd, hp5, hq5⟩
  refine seq_cut (fun ρ S6 => ∃ fs : List Bool, fs.length = regs ∧ ρ = [some (.ref a), some (.int (ins : Nat)), some (.int (regs : Nat)), some (.int (most : Nat)), some (.ref p), some (.int (src : Nat)), y6, x7, x8, x9, some (.ref q), x11, some (.lst (fs.map D.bl))] ∧ Dw a S S6 ∧ S6 p = some (.lst (sps.map Sp1.d)) ∧ S6 q = some (.lst (es.map endD))) (fun Rest hR => ?_) ?_
  · clear hq
    walk_at "nd"
    refine ⟨by omega, by omega, ?_⟩
    rw [rng_nat]
    refine lcR_ind (fun ds acc S' => ∃ (j m : Nat) (fs : List Bool), ds = (List.range' j m).map nat ∧ j + m = regs ∧ acc = fs.map D.bl ∧ fs.length = j ∧ Dw a S S' ∧ S' p = some (.lst (sps.map Sp1.d)) ∧ S' q = some (.lst (es.map endD))) ?_ ?_ _ _ _ ⟨0, regs, [], rfl, by omega, rfl, rfl, hd, hp5, hq5⟩
    · rintro acc S' ⟨j, m, fs, e1, e2, rfl, e3, hd, hp', hq'⟩
      have hm : m = 0 := by
        cases m with
        | zero => rfl
        | succ m => rw [List.range'_succ] at e1; cases e1
      exact hR _ _ ⟨fs, by omega, rfl, hd, hp', hq'⟩
    · rintro d ds acc S' W hW ⟨j, m, fs, e1, e2, rfl, e3, hd, hp', hq'⟩
      cases m with
      | zero => cases e1
      | succ m =>
        rw [List.range'_succ, List.map_cons] at e1
        injection e1 with e1 e5
        subst e1 e5
        walk_at "nd"
        refine next_w (lim := 2) hd (by omega) (by omega) fun t S1 hr2 hd2 hk2 => ?_
        refine ⟨Nat.lt_of_le_of_lt (m := 999) (by omega) (Nat.lt_of_lt_of_le (show 999 < 1000 by decide) (sz5 (by omega))), ?_⟩
        exact hW _ _ ⟨j + 1, m, fs ++ [decide ((t : Int) = 1)], rfl, by omega, by rw [List.map_append]; rfl, by rw [List.length_append]; show fs.length + 1 = _; omega, hd2, hk2 p _ hpa hp', hk2 q _ hqa hq'⟩
  clear hd hp5 hq5
  rintro ρ S6 ⟨fs, hf, rfl, hd, hp6, hq6⟩
  walk_at "nd"
  refine ⟨_, rfl, es.map endD, by unfold sdel; rw [if_neg hqp]; exact hq6, ?_⟩
  obtain ⟨o', ho', ha'⟩ := ((hd.del hpa hp).del hqa hq0).o
  subst hsrc
  exact fini (hq o' fs sps es ho' hf hok hl1 he1 he2 he3 _ (fun b u hb e => ((hd.del hpa hp).del hqa hq0).k b u hb e) ha')
end K07
namespace K07
open PySem PySem.Spec L2 DL
local macro_rules | `(tactic| walk_at "nd") => `(tactic| simp only [icO, isN0, gStr, tdiE, tdiZT, gSortND, gSortL, gSortDX, tdListVals, tdSortItems, tdiVals, gDictC, tdLck, tdSetd, tdExt, gIntT, tdTruT, tdRaise0, gTupP, tdPt, gDictT, tdLc2T, tdLcN, gLenN, tdValsI, tdSortSet, gCatB, gEq_bb, tdLcB, tdDNew, tdNNew, tdNGet, tdNPut, tdFGet, tdiF, tdDctF, tdDc, tdDcN, tdTru, tdDAugG, tdDictZ, tdCallV, tdLc2, ln_4, ln_5, ln_6, fmod_2, fdiv_2, gAddT, tdIdx, gdUnl, tdiD, gSortI, gMin2, gMax2, gTuple, gDictP, tdLcT, lcT, setD, unsetD, tdKGet, tdKGet2, tdGet2, tdPop, tdSeq, tdAsg, tdV, gdName, tdAnd, tdOr, tdNot, tdB, tdOp, tdCB, tdCons, tdNil, tdC, tdAug, tdSl, tdP, tdRet, tdTup, tdIf, tdIfS, gOrd, gI0, gI, gLen, gIx, gAdd, gInt, vw, ixP, gSl, tdDrop, tdRetN, tdNext, gIn_sc, gIn_ts, gIn_ls, gIn_t2, gIn_l2, gIn_l4, tdApp, sl_0, sl_1, sl_2, sl_3, sl_4, sl_5, ff, tt', true_and, id,
  eqS, tdFor, tdiT, tdiL, tdiR, tdXp, gList, gEq_ns, tdJoin, gJoin, vwS, gMul, gMod, gDiv, gPow, gI, tdAugS, gdSub, gSet, ixN_2, ixN_3, atI_3, atI_4, gEq_ss, gEq_ii, tdDict, tdPairs, tdNeg, Option.isNone_none, Option.isNone_some, gIsi, tdGet, tdDPut, tdDAug, tdIsN, tdNotN, DO.dic.injEq, Option.isNone_none, Option.isNone_some, gIn_l2, gIn_t2, Option.getD_some, tdLc, gMax, tdNoP, forR, tdRaise, tdCall, tdNotV, tdAndV, tdOrV, tdBox, tdZ, gdTup, gdCons, gdNil, tdBreak, tdCont, tdYes, icast, icast1, icast2, icast3, tdLst, gIn_l4, icastL, icastE, icastZ, ln_0, ln_1, ln_2, ln_3,
  List.getElem?_cons_zero, List.getElem?_cons_succ, List.set_cons_zero, List.set_cons_succ, Option.some.injEq, exists_eq_left', exists_eq_left, D.bl.injEq, decide_eq_true_eq,
  tdFldC, tdMeth, tdMake, tdPutF, tdAugF, D.ref.injEq, DO.ins.injEq, and_assoc, DL.gSub, D.int.injEq, D.str.injEq, sup_same, eq_self, not_true_eq_false, not_false_eq_true, Bool.false_eq_true, Bool.not_eq_true, decide_not, atIn, atI_0, atI_1, atI_2, List.getElem?_map, Option.map_some, Option.map_none, decide_true, decide_false, Bool.not_true, Bool.not_false, if_true, if_false, lm_0, lm_1, lm_2, List.length_map, exists_and_left, *])
variable {P : Program} {w : World} {K : PySem.W.Frag} {mg : Str → Option Value} {base : Heap}
def inN : List Tx := [tx "i0", tx "a.10", tx "up", tx "k_3", tx "zz", tx "b", tx "c.2", tx "d", tx "m1"]
def rgN : List Tx := [tx "r0", tx "n.1", tx "q", tx "w_w"]
def ouN : List Tx := [tx "o0", tx "full", tx "z.3", tx "x", tx "y.15", tx "j"]
/-- a net -/
structure Net where
  ni : Nat
  fs : List Bool
  gs : List (Nat × Nat)
  os : List Nat
  ns : List Nat
def Net.start (n : Net) : Nat := 1 + n.ni + n.fs.length
def Net.size (n : Net) : Nat := n.start + n.gs.length
def Net.ins (n : Net) : List Tx := inN.take n.ni
def Net.d (n : Net) : D := .tup [.tup (n.ins.map D.str), .tup (List.zipWith (fun x b => .tup [.str x, .bl b]) rgN n.fs), .tup (n.gs.map DL.prD), .tup (List.zipWith (fun x l => .tup [.str x, nat l]) ouN n.os), .tup (n.ns.map nat)]
structure Net.ok (n : Net) : Prop where
  i1 : 1 ≤ n.ni
  i2 : n.ni ≤ 4
  f1 : 0 ≤ n.fs.length
  f2 : n.fs.length ≤ 4
  g1 : n.gs.length ≤ 40
  g2 : Gs n.start n.gs
  o1 : 1 ≤ n.os.length
  o2 : n.os.length ≤ 3
  o3 : ∀ l ∈ n.os, l < 2 * n.size
  n1 : n.ns.length = n.fs.length
  n2 : ∀ l ∈ n.ns, l < 2 * n.size
def lit (n t : Nat) : Nat := if n % 2 = 0 then n + t else n - t
theorem lit_lt {n t m : Nat} (h : n < 2 * m) (ht : t < 2) : lit n t < 2 * m := by unfold lit; split <;> omega
/-- a step's literal -/
theorem lit_go {S : Store} {p : Addr} {sg : List Nat} {pl t n : Nat} {Q : D → Store → Prop} {d0 d1 d2 d3 d4 d5 d6 d7 d9 d10 d11 d12 d13 d16 d17 d18 d19 d20 d21 : Option D} (hs : S p = some (.lst (sg.map nat))) (hg : sg[pl]? = some n) (ht : t < 2) (q : Q (nat (lit n t)) S) :
    tdIf (tdB (tdOp (gEq id) (tdOp gMod (tdOp gIx (tdV 8) (tdV 14)) (tdC (D.int 2))) (tdC (D.int 0)))) (tdOp gAddT (tdOp gIx (tdV 8) (tdV 14)) (tdV 15)) (tdOp DL.gSub (tdOp gIx (tdV 8) (tdV 14)) (tdV 15))
      [d0, d1, d2, d3, d4, d5, d6, d7, some (.ref p), d9, d10, d11, d12, d13, some (nat pl), some (nat t), d16, d17, d18, d19, d20, d21] S Q := by
  have hix : atI (sg.map nat) ((pl : Nat) : Int) = some (nat n) := by rw [atIn, List.getElem?_map, hg]; rfl
  walk_at "nd"
  refine ⟨by decide, ?_⟩
  unfold lit at q
  by_cases h : n % 2 = 0
  · rw [if_pos h] at q ⊢
    exact q
  · rw [if_neg h] at q ⊢
    have e : (n : Int) - (t : Int) = ((n - t : Nat) : Int) := by omega
    rw [e]
    exact q
def m_net : M := fun ds S Q E => ∃ (ins : Nat) (fs : List Bool) (sps : List Sp1) (es : List (Nat × Nat)) (other : Bool), ds = [.tup [.int (ins : Nat), .lst (fs.map D.bl), .lst (sps.map Sp1.d), .lst (es.map endD)], .bl other] ∧
  1 ≤ ins ∧ ins ≤ 4 ∧ 0 ≤ fs.length ∧ fs.length ≤ 4 ∧ SpOk (ins + fs.length) sps ∧ sps.length ≤ 10 ∧ es.length ≤ 3 + fs.length ∧ fs.length < es.length ∧ (∀ e ∈ es, e.1 < ins + fs.length + sps.length ∧ e.2 < 2) ∧
  ∀ (n : Net) S', Sub S S' → n.ok → n.ni = ins → n.fs = fs → Q n.d S'
theorem d__law_net (Z : Zf P w K mg base) : Ca P w K mg base 3 "_law_net" ["design", "other"] m_net := by
  obtain ⟨fd, F, hb⟩ := Z.F__law_net
  refine ⟨_, fd, df_of (k := 2) F sc__law_net (fun cdv A outer s H E F0 E' B => (dss_cons (ds_asg (dv 0) (dg_tup (n := 4) rfl (dgs_cons (dg_name 2 nd__law_net) (dgs_cons (dg_name 3 nd__law_net) (dgs_cons (dg_name 4 nd__law_net) (dgs_cons (dg_name 5 nd__law_net) dgs_nil))))))
    (dss_cons (ds_set 6 nd__law_net (de_op od_addT (de_op od_addT de_int (dv 2)) (de_cB oc_len rfl Z.f_len bb_len (da_cons (dv 3) da_nil))))
    (dss_cons (ds_set 7 nd__law_net (de_box da_nil))
    (dss_cons (ds_set 8 nd__law_net (de_lcB rfl nd__law_net (di_rng rfl Z.f_range (da_cons (de_op od_sub (dv 6) de_int) da_nil)) (blkOk_by (own := [("k", 9)]) (N := N__law_net) (sc := defScope st__law_net) (by decide +kernel)) (fun _ _ _ _ _ => pg_name (i := 9) nd__law_net rfl (Or.inl rfl)) (fun _ _ _ _ _ => dts_nil) (fun _ _ _ _ _ => (de_op od_mul de_int (de_op od_addT (dv 9) de_int)))))
    (dss_cons (ds_for (passes_of rfl) rfl (di_lst (dv 4)) (dg_tup (n := 3) rfl (dgs_cons (dg_name 10 nd__law_net) (dgs_cons (dg_name 11 nd__law_net) (dgs_cons (dg_name 12 nd__law_net) dgs_nil)))) (dss_cons (ds_setLcT 13 [14, 15] rfl rfl nd__law_net rfl rfl (sw_true rfl rfl rfl (by decide +kernel)) (di_lst (de_lst (da_cons (dv 11) (da_cons (dv 12) da_nil)))) (blkOk_by (own := [("place", 14), ("turn", 15)]) (N := N__law_net) (sc := defScope st__law_net) (by decide +kernel)) (fun _ _ _ _ _ => pg_tup rfl (pgs_cons (pg_name (i := 14) nd__law_net rfl (Or.inl rfl)) (pgs_cons (pg_name (i := 15) nd__law_net rfl (Or.inl rfl)) pgs_nil))) (fun _ _ _ _ _ => dts_nil) (fun _ _ _ _ _ => (de_if (dt_cmp (od_eq B.blk.units) (de_op od_mod (de_ix (dv 8) (dv 14)) de_int) de_int rfl) (de_op od_addT (de_ix (dv 8) (dv 14)) (dv 15)) (de_op od_sub (de_ix (dv 8) (dv 14)) (dv 15)))))
    (dss_one (ds_expr (de_app (dv 8) (de_ca (d__law_step Z) (B.mono (by omega)) rfl (da_cons (dv 7) (da_cons (dv 6) (da_cons (dv 10) (da_cons (de_ix (dv 13) de_int) (da_cons (de_ix (dv 13) de_int) (da_cons (dv 1) da_nil))))))))))))
    (dss_cons (ds_set 16 nd__law_net (de_lcT [14, 15] rfl rfl nd__law_net (di_lst (dv 5)) (blkOk_by (own := [("place", 14), ("turn", 15)]) (N := N__law_net) (sc := defScope st__law_net) (by decide +kernel)) (fun _ _ _ _ _ => pg_tup rfl (pgs_cons (pg_name (i := 14) nd__law_net rfl (Or.inl rfl)) (pgs_cons (pg_name (i := 15) nd__law_net rfl (Or.inl rfl)) pgs_nil))) (fun _ _ _ _ _ => dts_nil) (fun _ _ _ _ _ => (de_if (dt_cmp (od_eq B.blk.units) (dv 15) de_int rfl) (de_ix (dv 8) (dv 14)) (de_ca (d__law_turned Z) (B.blk.mono (by omega)) rfl (da_cons (de_ix (dv 8) (dv 14)) da_nil))))))
    (dss_cons (ds_asg (de_ca (d__law_trimmed Z) (B.mono (by omega)) rfl (da_cons (dv 6) (da_cons (dv 7) (da_cons (dv 16) da_nil)))) (dg_tup (n := 2) rfl (dgs_cons (dg_name 17 nd__law_net) (dgs_cons (dg_name 16 nd__law_net) dgs_nil))))
    (dss_cons (ds_set 18 nd__law_net (de_op od_sub (de_cB oc_len rfl Z.f_len bb_len (da_cons (dv 16) da_nil)) (de_cB oc_len rfl Z.f_len bb_len (da_cons (dv 3) da_nil))))
    (dss_cons (ds_set 19 nd__law_net (de_cT oc_tuple rfl Z.f_tuple bb_tuple (da_cons (de_lc rfl nd__law_net (di_rng rfl Z.f_range (da_cons (dv 2) da_nil)) (blkOk_by (own := [("k", 9)]) (N := N__law_net) (sc := defScope st__law_net) (by decide +kernel)) (fun _ _ _ _ _ => pg_name (i := 9) nd__law_net rfl (Or.inl rfl)) (fun _ _ _ _ _ => dts_nil) (fun _ _ _ _ _ => (de_ix (de_lst (da_cons de_str (da_cons de_str (da_cons de_str (da_cons de_str (da_cons de_str (da_cons de_str (da_cons de_str (da_cons de_str (da_cons de_str da_nil)))))))))) (dv 9)))) da_nil)))
    (dss_cons (ds_set 20 nd__law_net (de_cT oc_tuple rfl Z.f_tuple bb_tuple (da_cons (de_lc rfl nd__law_net (di_rng rfl Z.f_range (da_cons (de_cB oc_len rfl Z.f_len bb_len (da_cons (dv 3) da_nil)) da_nil)) (blkOk_by (own := [("k", 9)]) (N := N__law_net) (sc := defScope st__law_net) (by decide +kernel)) (fun _ _ _ _ _ => pg_name (i := 9) nd__law_net rfl (Or.inl rfl)) (fun _ _ _ _ _ => dts_nil) (fun _ _ _ _ _ => (de_tup (da_cons (de_ix (de_lst (da_cons de_str (da_cons de_str (da_cons de_str (da_cons de_str da_nil))))) (dv 9)) (da_cons (de_ix (dv 3) (dv 9)) da_nil))))) da_nil)))
    (dss_cons (ds_set 21 nd__law_net (de_lst (da_cons de_str (da_cons de_str (da_cons de_str (da_cons de_str (da_cons de_str (da_cons de_str da_nil))))))))
    (dss_one (ds_ret (de_tup (da_cons (dv 19) (da_cons (dv 20) (da_cons (dv 17) (da_cons (de_cT oc_tuple rfl Z.f_tuple bb_tuple (da_cons (de_lc rfl nd__law_net (di_rng rfl Z.f_range (da_cons (dv 18) da_nil)) (blkOk_by (own := [("k", 9)]) (N := N__law_net) (sc := defScope st__law_net) (by decide +kernel)) (fun _ _ _ _ _ => pg_name (i := 9) nd__law_net rfl (Or.inl rfl)) (fun _ _ _ _ _ => dts_nil) (fun _ _ _ _ _ => (de_tup (da_cons (de_ix (dv 21) (dv 9)) (da_cons (de_ix (dv 16) (dv 9)) da_nil))))) da_nil)) (da_cons (de_cT oc_tuple rfl Z.f_tuple bb_tuple (da_cons (de_sl (dv 16) (do_some (dv 18)) do_none) da_nil)) da_nil)))))))))))))))))))) ?_, Z.g__law_net, F.kp, hb⟩
  rintro ds S Q E hl ⟨ins, fs, sps, es, other, rfl, h1, h2, h3, h4, h5, h6, h7, h8, h9, hq⟩
  rw [show startD N__law_net [.tup [.int (ins : Nat), .lst (fs.map D.bl), .lst (sps.map Sp1.d), .lst (es.map endD)], .bl other] = [some (.tup [.int (ins : Nat), .lst (fs.map D.bl), .lst (sps.map Sp1.d), .lst (es.map endD)]), some (.bl other), none, none, none, none, none, none, none, none, none, none, none, none, none, none, none, none, none, none, none, none] from rfl]
  clear hl
  refine seq_cut (fun ρ S1 => ρ = [some (.tup [.int (ins : Nat), .lst (fs.map D.bl), .lst (sps.map Sp1.d), .lst (es.map endD)]), some (.bl other), some (nat ins), some (.lst (fs.map D.bl)), some (.lst (sps.map Sp1.d)), some (.lst (es.map endD)), none, none, none, none, none, none, none, none, none, none, none, none, none, none, none, none] ∧ S1 = S) (fun Rest hR => ?_) ?_
  · walk_at "nd"
    exact ⟨_, rfl, rfl, _, _, rfl, _, _, rfl, _, _, rfl, _, _, rfl, rfl, hR _ _ ⟨rfl, rfl⟩⟩
  rintro ρ S1 ⟨rfl, rfl⟩
  generalize hD0 : (some (D.tup [D.int (ins : Nat), D.lst (fs.map D.bl), D.lst (sps.map Sp1.d), D.lst (es.map endD)])) = d0
  generalize hst : 1 + ins + fs.length = start
  refine seq_cut (fun ρ S2 => ρ = [d0, some (.bl other), some (nat ins), some (.lst (fs.map D.bl)), some (.lst (sps.map Sp1.d)), some (.lst (es.map endD)), some (nat start), none, none, none, none, none, none, none, none, none, none, none, none, none, none, none] ∧ S2 = S1) (fun Rest hR => ?_) ?_
  · walk_at "nd"
    try exact hR _ _ ⟨rfl, rfl⟩
  rintro ρ S2 ⟨rfl, rfl⟩
  refine seq_cut (fun ρ S3 => ∃ g, S2 g = none ∧ ρ = [d0, some (.bl other), some (nat ins), some (.lst (fs.map D.bl)), some (.lst (sps.map Sp1.d)), some (.lst (es.map endD)), some (nat start), some (.ref g), none, none, none, none, none, none, none, none, none, none, none, none, none, none] ∧ S3 = sup S2 g (gaO [])) (fun Rest hR => ?_) ?_
  · clear hq
    walk_at "nd"
    exact fun g hg => hR _ _ ⟨g, hg, rfl, rfl⟩
  rintro ρ S3 ⟨g, hg0, rfl, rfl⟩
  refine seq_cut (fun ρ S4 => ∃ p, p ≠ g ∧ S2 p = none ∧ ρ = [d0, some (.bl other), some (nat ins), some (.lst (fs.map D.bl)), some (.lst (sps.map Sp1.d)), some (.lst (es.map endD)), some (nat start), some (.ref g), some (.ref p), none, none, none, none, none, none, none, none, none, none, none, none, none] ∧
    S4 = sup (sup S2 g (gaO [])) p (.lst (((List.range' 0 (start - 1)).map fun k => 2 * (k + 1)).map nat))) (fun Rest hR => ?_) ?_
  · clear hq
    walk_at "nd"
    have e0 : ((start : Nat) : Int) - 1 = ((start - 1 : Nat) : Int) := by omega
    rw [e0]
    refine ⟨by omega, by omega, ?_⟩
    rw [rng_nat]
    refine lcR_n (fun k => nat (2 * (k + 1))) (List.range' 0 (start - 1)) [] _ (fun k hk Q' q => ?_) (by rw [List.length_range']; show 0 + (start - 1) ≤ _; omega) ?_
    · have := List.mem_range'_1.mp hk
      walk_at "nd"
      refine ⟨by first | exact .inl (by decide) | exact .inr (by decide), ?_⟩
      exact q
    · rw [List.nil_append]
      refine fun p hp => hR _ _ ⟨p, (fun z => by rw [z, sup_same] at hp; cases hp), ?_, rfl, ?_⟩
      · rw [sup_ne (fun z => by rw [z, sup_same] at hp; cases hp)] at hp
        exact hp
      · rw [List.map_map]
        rfl
  rintro ρ S4 ⟨p, hpg, hp0, rfl, rfl⟩
  refine seq_cut (fun ρ S5 => ∃ (ps : List (Nat × Nat)) (sg : List Nat) (x10 x11 x12 x13 : Option D), Gs start ps ∧ ps.length ≤ 3 * sps.length ∧ sg.length = start - 1 + sps.length ∧ (∀ l ∈ sg, l < 2 * (start + ps.length)) ∧
    ρ = [d0, some (.bl other), some (nat ins), some (.lst (fs.map D.bl)), some (.lst (sps.map Sp1.d)), some (.lst (es.map endD)), some (nat start), some (.ref g), some (.ref p), none, x10, x11, x12, x13, none, none, none, none, none, none, none, none] ∧
    S5 = sup (sup S2 g (gaO ps)) p (.lst (sg.map nat))) (fun Rest hR => ?_) ?_
  · clear hq
    walk_at "nd"
    refine for_ind (fun ds ρ S' => ∃ (j : Nat) (rs : List Sp1) (ps : List (Nat × Nat)) (sg : List Nat) (x10 x11 x12 x13 : Option D), ds = rs.map Sp1.d ∧ rs = sps.drop j ∧ j ≤ sps.length ∧ Gs start ps ∧ ps.length ≤ 3 * j ∧ sg.length = start - 1 + j ∧ (∀ l ∈ sg, l < 2 * (start + ps.length)) ∧
      ρ = [d0, some (.bl other), some (nat ins), some (.lst (fs.map D.bl)), some (.lst (sps.map Sp1.d)), some (.lst (es.map endD)), some (nat start), some (.ref g), some (.ref p), none, x10, x11, x12, x13, none, none, none, none, none, none, none, none] ∧
      S' = sup (sup S2 g (gaO ps)) p (.lst (sg.map nat))) ?_ ?_ _ _ _ ⟨0, sps, [], _, none, none, none, none, rfl, rfl, Nat.zero_le _, (fun k p h => by simp at h), Nat.zero_le _, by rw [List.length_map, List.length_range']; omega, (fun l hl => ?_), rfl, rfl⟩
    · rintro ρ S' ⟨j, rs, ps, sg, x10, x11, x12, x13, e1, e2, e3, e4, e5, e6, e7, rfl, rfl⟩
      have hj : sps.drop j = [] := by
        rw [← e2]
        cases rs with
        | nil => rfl
        | cons _ _ => cases e1
      have hj2 : j = sps.length := by
        have := List.drop_eq_nil_iff.mp hj
        omega
      subst hj2
      exact hR _ _ ⟨ps, sg, x10, x11, x12, x13, e4, e5, e6, e7, rfl, rfl⟩
    · rintro d ds ρ S' W hW ⟨j, rs, ps, sg, x10, x11, x12, x13, e1, e2, e3, e4, e5, e6, e7, rfl, rfl⟩
      cases rs with
      | nil => cases e1
      | cons s rs =>
        rw [List.map_cons] at e1
        injection e1 with e1 e8
        subst e1 e8
        clear hR
        have hjl : j < sps.length := by
          rcases Nat.lt_or_ge j sps.length with z | z
          · exact z
          · rw [List.drop_eq_nil_of_le z] at e2; cases e2
        have hgj : sps[j]? = some s := by
          have e9 := congrArg List.head? e2
          rw [List.head?_drop] at e9
          exact e9.symm
        have hrs : rs = sps.drop (j + 1) := by
          have e9 := congrArg List.tail e2
          rw [List.tail_drop] at e9
          exact e9
        obtain ⟨hw, ha, hb2, ht, hu⟩ := h5 j s hgj
        refine ⟨_, rfl, rfl, _, _, rfl, _, _, rfl, _, _, rfl, rfl, ?_⟩
        show tdSeq _ _ _ [d0, some (.bl other), some (nat ins), some (.lst (fs.map D.bl)), some (.lst (sps.map Sp1.d)), some (.lst (es.map endD)), some (nat start), some (.ref g), some (.ref p), none, some (.str s.w), some (.tup [nat s.a, nat s.t]), some (.tup [nat s.b, nat s.u]), x13, none, none, none, none, none, none, none, none] _
        have hga : ∃ na, sg[s.a]? = some na ∧ na < 2 * (start + ps.length) := by
          have : s.a < sg.length := by omega
          exact ⟨_, List.getElem?_eq_getElem this, e7 _ (List.getElem_mem this)⟩
        have hgb : ∃ nb, sg[s.b]? = some nb ∧ nb < 2 * (start + ps.length) := by
          have : s.b < sg.length := by omega
          exact ⟨_, List.getElem?_eq_getElem this, e7 _ (List.getElem_mem this)⟩
        obtain ⟨na, ga1, ga2⟩ := hga
        obtain ⟨nb, gb1, gb2⟩ := hgb
        have hgate : sup (sup S2 g (gaO ps)) p (.lst (sg.map nat)) g = some (gaO ps) := by rw [sup_ne hpg.symm, sup_same]
        refine seq_cut (fun ρ S6 => ρ = [d0, some (.bl other), some (nat ins), some (.lst (fs.map D.bl)), some (.lst (sps.map Sp1.d)), some (.lst (es.map endD)), some (nat start), some (.ref g), some (.ref p), none, some (.str s.w), some (.tup [nat s.a, nat s.t]), some (.tup [nat s.b, nat s.u]), some (.lst [nat (lit na s.t), nat (lit nb s.u)]), none, none, none, none, none, none, none, none] ∧ S6 = sup (sup S2 g (gaO ps)) p (.lst (sg.map nat))) (fun Rest2 hR2 => ?_) ?_
        · clear hW
          refine ⟨_, rfl, _, rfl, sz5 (show 2 ≤ 1000000 by decide), ?_⟩
          show lcT [14, 15] tdYes _ _ ([(s.a, s.t, na), (s.b, s.u, nb)].map fun q : Nat × Nat × Nat => D.tup [nat q.1, nat q.2.1]) [] _ _
          refine lcT_m (vs := [14, 15]) (fun q : Nat × Nat × Nat => nat (lit q.2.2 q.2.1)) (fun q => [nat q.1, nat q.2.1]) (fun _ => rfl) [(s.a, s.t, na), (s.b, s.u, nb)] [] _ (fun q hq Q' qq => ?_) (show 0 + 2 ≤ 100000 by decide) ?_
          · simp only [List.mem_cons, List.not_mem_nil, or_false] at hq
            rcases hq with rfl | rfl
            · exact lit_go sup_same ga1 ht qq
            · exact lit_go sup_same gb1 hu qq
          exact hR2 _ _ ⟨rfl, rfl⟩
        rintro ρ S6 ⟨rfl, rfl⟩
        walk_at "nd"
        refine ⟨⟨_, rfl⟩, g, start, lit na s.t, lit nb s.u, s.w, other, ps, rfl, ⟨hgate, e4, by omega⟩, by omega, lit_lt ga2 ht, lit_lt gb2 hu, fun r ps' f1 f2 f3 f4 => ?_⟩
        rw [sup_swap hpg]
        refine ⟨_, sup_same, by rw [List.length_map]; exact Nat.lt_of_lt_of_le (show sg.length < 1000 by omega) (sz5 (by omega)), ?_⟩
        refine hW _ _ ⟨j + 1, rs, ps', sg ++ [r], some (.str s.w), _, _, _, rfl, hrs, by omega, f1, by omega, by rw [List.length_append]; show sg.length + 1 = _; omega, fun l hl => ?_, rfl, by rw [sup_sup, List.map_append]; rfl⟩
        rcases List.mem_append.mp hl with hl | hl
        · have := e7 l hl
          omega
        · rw [List.mem_singleton.mp hl]
          exact f4
    · obtain ⟨k, hk, rfl⟩ := List.mem_map.mp hl
      have := List.mem_range'_1.mp hk
      show _ < 2 * (start + 0)
      omega
  rintro ρ S5 ⟨ps, sg, x10, x11, x12, x13, e4, e5, e6, e7, rfl, rfl⟩
  have hgate : sup (sup S2 g (gaO ps)) p (.lst (sg.map nat)) g = some (gaO ps) := by rw [sup_ne hpg.symm, sup_same]
  have hsig : sup (sup S2 g (gaO ps)) p (.lst (sg.map nat)) p = some (.lst (sg.map nat)) := sup_same
  have hsub : Sub S2 (sup (sup S2 g (gaO ps)) p (.lst (sg.map nat))) := Sub.sup2 (Sub.sup hg0) hp0
  generalize sup (sup S2 g (gaO ps)) p (.lst (sg.map nat)) = S6 at hgate hsig hsub ⊢
  refine seq_cut (fun ρ S7 => ∃ tl : List Nat, tl.length = es.length ∧ (∀ l ∈ tl, l < 2 * (start + ps.length)) ∧ ρ = [d0, some (.bl other), some (nat ins), some (.lst (fs.map D.bl)), some (.lst (sps.map Sp1.d)), some (.lst (es.map endD)), some (nat start), some (.ref g), some (.ref p), none, x10, x11, x12, x13, none, none, some (.lst (tl.map nat)), none, none, none, none, none] ∧ S7 = S6) (fun Rest hR => ?_) ?_
  · clear hq
    walk_at "nd"
    have hv : ∀ e ∈ es, ∃ n, sg[e.1]? = some n ∧ n < 2 * (start + ps.length) := fun e he => by
      have h := (h9 e he).1
      have : e.1 < sg.length := by omega
      exact ⟨_, List.getElem?_eq_getElem this, e7 _ (List.getElem_mem this)⟩
    refine lcT_m (vs := [14, 15]) (fun e : Nat × Nat => nat (if e.2 = 0 then sg.getD e.1 0 else turn (sg.getD e.1 0))) (fun e => [nat e.1, nat e.2]) (fun _ => rfl) es [] _ (fun e he Q' qq => ?_) (show 0 + es.length ≤ 100000 by omega) ?_
    · obtain ⟨n, g1, g2⟩ := hv e he
      have hgd : sg.getD e.1 0 = n := by rw [List.getD_eq_getElem?_getD, g1]; rfl
      rw [hgd] at qq
      have hix : atI (sg.map nat) ((e.1 : Nat) : Int) = some (nat n) := by rw [atIn, List.getElem?_map, g1]; rfl
      clear hR
      walk_at "nd"
      by_cases h : e.2 = 0
      · rw [if_pos h] at qq ⊢
        exact qq
      · rw [if_neg h] at qq ⊢
        exact ⟨n, rfl, by omega, qq⟩
    · refine hR _ _ ⟨es.map fun e => if e.2 = 0 then sg.getD e.1 0 else turn (sg.getD e.1 0), List.length_map _, fun l hl => ?_, by rw [List.nil_append, List.map_map]; rfl, rfl⟩
      obtain ⟨e, he, rfl⟩ := List.mem_map.mp hl
      obtain ⟨n, g1, g2⟩ := hv e he
      have hgd : sg.getD e.1 0 = n := by rw [List.getD_eq_getElem?_getD, g1]; rfl
      rw [hgd]
      split
      · exact g2
      · exact turn_lt g2
  rintro ρ S7 ⟨tl, t1, t2, rfl, rfl⟩
  refine seq_cut (fun ρ S8 => ∃ (kept : List (Nat × Nat)) (told : List Nat), Gs start kept ∧ kept.length ≤ ps.length ∧ told.length = es.length ∧ (∀ l ∈ told, l < 2 * (start + kept.length)) ∧
    ρ = [d0, some (.bl other), some (nat ins), some (.lst (fs.map D.bl)), some (.lst (sps.map Sp1.d)), some (.lst (es.map endD)), some (nat start), some (.ref g), some (.ref p), none, x10, x11, x12, x13, none, none, some (.lst (told.map nat)), some (.tup (kept.map DL.prD)), none, none, none, none] ∧ Sub S2 S8) (fun Rest hR => ?_) ?_
  · clear hq
    walk_at "nd"
    refine ⟨g, start, ps, tl, rfl, ⟨hgate, e4, by omega⟩, by omega, by omega, t2, fun kept told S' k0 k1 k2 k3 k4 => ?_⟩
    exact ⟨_, rfl, rfl, _, _, rfl, _, _, rfl, rfl, hR _ _ ⟨kept, told, k1, k2, by omega, k4, rfl, hsub.trans k0⟩⟩
  clear hgate hsig hsub
  rintro ρ S8 ⟨kept, told, k1, k2, k3, k4, rfl, hsub⟩
  have hn3 : ((told.length : Nat) : Int) - ((fs.length : Nat) : Int) = ((told.length - fs.length : Nat) : Int) := by omega
  have q1 : fs.length < told.length := by omega
  have q2 : told.length ≤ 3 + fs.length := by omega
  have q3 : kept.length ≤ 40 := by omega
  clear k3 t1 e6
  refine seq_cut (fun ρ S9 => ρ = [d0, some (.bl other), some (nat ins), some (.lst (fs.map D.bl)), some (.lst (sps.map Sp1.d)), some (.lst (es.map endD)), some (nat start), some (.ref g), some (.ref p), none, x10, x11, x12, x13, none, none, some (.lst (told.map nat)), some (.tup (kept.map DL.prD)), some (nat (told.length - fs.length)), none, none, none] ∧ S9 = S8) (fun Rest hR => ?_) ?_
  · clear hq
    walk_at "nd"
    try exact hR _ _ ⟨rfl, rfl⟩
  rintro ρ S9 ⟨rfl, rfl⟩
  refine seq_cut (fun ρ S10 => ρ = [d0, some (.bl other), some (nat ins), some (.lst (fs.map D.bl)), some (.lst (sps.map Sp1.d)), some (.lst (es.map endD)), some (nat start), some (.ref g), some (.ref p), none, x10, x11, x12, x13, none, none, some (.lst (told.map nat)), some (.tup (kept.map DL.prD)), some (nat (told.length - fs.length)), some (.tup ((inN.take ins).map D.str)), none, none] ∧ S10 = S9) (fun Rest hR => ?_) ?_
  · clear hq
    walk_at "nd"
    refine ⟨by omega, by omega, ?_⟩
    rw [rng_nat]
    refine lcR_n (fun k => .str (inN.getD k [])) (List.range' 0 ins) [] _ (fun k hk Q' q => ?_) (by rw [List.length_range']; show 0 + ins ≤ _; omega) ?_
    · have hk2 := List.mem_range'_1.mp hk
      clear hR
      walk_at "nd"
      refine ⟨sz5 (show 9 ≤ 1000000 by decide), ?_⟩
      obtain rfl | rfl | rfl | rfl : k = 0 ∨ k = 1 ∨ k = 2 ∨ k = 3 := by omega
      · exact ⟨_, rfl, q⟩
      · exact ⟨_, rfl, q⟩
      · exact ⟨_, rfl, q⟩
      · exact ⟨_, rfl, q⟩
    · show Rest _ _
      refine hR _ _ ⟨?_, rfl⟩
      have e : [] ++ (List.range' 0 ins).map (fun k => D.str (inN.getD k [])) = (inN.take ins).map D.str := by
        obtain rfl | rfl | rfl | rfl : ins = 1 ∨ ins = 2 ∨ ins = 3 ∨ ins = 4 := by omega
        · rfl
        · rfl
        · rfl
        · rfl
      rw [← e]
  rintro ρ S10 ⟨rfl, rfl⟩
  refine seq_cut (fun ρ S11 => ρ = [d0, some (.bl other), some (nat ins), some (.lst (fs.map D.bl)), some (.lst (sps.map Sp1.d)), some (.lst (es.map endD)), some (nat start), some (.ref g), some (.ref p), none, x10, x11, x12, x13, none, none, some (.lst (told.map nat)), some (.tup (kept.map DL.prD)), some (nat (told.length - fs.length)), some (.tup ((inN.take ins).map D.str)), some (.tup (List.zipWith (fun x b => .tup [.str x, .bl b]) rgN fs)), none] ∧ S11 = S10) (fun Rest hR => ?_) ?_
  · clear hq
    walk_at "nd"
    refine ⟨by omega, by omega, ?_⟩
    rw [rng_nat]
    refine lcR_n (fun k => .tup [.str (rgN.getD k []), .bl (fs.getD k false)]) (List.range' 0 fs.length) [] _ (fun k hk Q' q => ?_) (by rw [List.length_range']; show 0 + fs.length ≤ _; omega) ?_
    · have hk2 := List.mem_range'_1.mp hk
      clear hR
      have hix : atI (fs.map D.bl) ((k : Nat) : Int) = some (.bl (fs.getD k false)) := by
        rw [atIn, List.getElem?_map, List.getD_eq_getElem?_getD, List.getElem?_eq_getElem (show k < fs.length by omega)]
        rfl
      walk_at "nd"
      obtain rfl | rfl | rfl | rfl : k = 0 ∨ k = 1 ∨ k = 2 ∨ k = 3 := by omega
      · exact ⟨_, rfl, q⟩
      · exact ⟨_, rfl, q⟩
      · exact ⟨_, rfl, q⟩
      · exact ⟨_, rfl, q⟩
    · show Rest _ _
      refine hR _ _ ⟨?_, rfl⟩
      have e : [] ++ (List.range' 0 fs.length).map (fun k => D.tup [.str (rgN.getD k []), .bl (fs.getD k false)]) = List.zipWith (fun x b => D.tup [.str x, .bl b]) rgN fs := by
        clear hR hn3 hst h5 h6 h7 h8 h9 hD0
        match fs, h3, h4 with
        | [], _, _ => rfl
        | [a], _, _ => rfl
        | [a, b], _, _ => rfl
        | [a, b, c], _, _ => rfl
        | [a, b, c, d], _, _ => rfl
      rw [← e]
  rintro ρ S11 ⟨rfl, rfl⟩
  refine seq_cut (fun ρ S12 => ρ = [d0, some (.bl other), some (nat ins), some (.lst (fs.map D.bl)), some (.lst (sps.map Sp1.d)), some (.lst (es.map endD)), some (nat start), some (.ref g), some (.ref p), none, x10, x11, x12, x13, none, none, some (.lst (told.map nat)), some (.tup (kept.map DL.prD)), some (nat (told.length - fs.length)), some (.tup ((inN.take ins).map D.str)), some (.tup (List.zipWith (fun x b => .tup [.str x, .bl b]) rgN fs)), some (.lst (ouN.map D.str))] ∧ S12 = S11) (fun Rest hR => ?_) ?_
  · clear hq
    walk_at "nd"
    exact ⟨sz5 (show 6 ≤ 1000000 by decide), hR _ _ ⟨rfl, rfl⟩⟩
  rintro ρ S12 ⟨rfl, rfl⟩
  generalize hcn : told.length - fs.length = cn
  have hcn1 : 1 ≤ cn := by omega
  have hcn2 : cn ≤ 3 := by omega
  have htk : cn ≤ told.length := by omega
  have hdl : (told.drop cn).length = fs.length := by rw [List.length_drop]; omega
  have hn := hq ⟨ins, fs, kept, told.take cn, told.drop cn⟩ S12 hsub ⟨h1, h2, h3, h4, q3, by show Gs (1 + ins + fs.length) kept; rw [hst]; exact k1, by show 1 ≤ (told.take cn).length; rw [List.length_take]; omega, by show (told.take cn).length ≤ 3; rw [List.length_take]; omega,
    fun l hl => by show l < 2 * (1 + ins + fs.length + kept.length); rw [hst]; exact k4 l (List.mem_of_mem_take hl), hdl, fun l hl => by show l < 2 * (1 + ins + fs.length + kept.length); rw [hst]; exact k4 l (List.mem_of_mem_drop hl)⟩ rfl rfl
  clear hq hn3 q1
  walk_at "nd"
  refine ⟨by omega, by omega, ?_⟩
  rw [rng_nat]
  refine lcR_n (fun k => .tup [.str (ouN.getD k []), nat (told.getD k 0)]) (List.range' 0 cn) [] _ (fun k hk Q' q => ?_) (by rw [List.length_range']; show 0 + cn ≤ _; omega) ?_
  · have hk2 := List.mem_range'_1.mp hk
    have hix : atI (told.map nat) ((k : Nat) : Int) = some (nat (told.getD k 0)) := by
      rw [atIn, List.getElem?_map, List.getD_eq_getElem?_getD, List.getElem?_eq_getElem (show k < told.length by omega)]
      rfl
    clear hn
    walk_at "nd"
    obtain rfl | rfl | rfl : k = 0 ∨ k = 1 ∨ k = 2 := by omega
    · exact ⟨_, rfl, q⟩
    · exact ⟨_, rfl, q⟩
    · exact ⟨_, rfl, q⟩
  · have ec : cutL (told.map nat) (some ((cn : Nat) : Int)) none = (told.drop cn).map nat := by rw [cutL_n, List.map_drop]
    have eo : [] ++ (List.range' 0 cn).map (fun k => D.tup [D.str (ouN.getD k []), nat (told.getD k 0)]) = List.zipWith (fun x l => D.tup [.str x, nat l]) ouN (told.take cn) := by
      clear hn hcn hdl hsub k4 q2
      obtain rfl | rfl | rfl : cn = 1 ∨ cn = 2 ∨ cn = 3 := by omega
      · match told, htk with
        | a :: r, _ => rfl
      · match told, htk with
        | a :: b :: r, _ => rfl
      · match told, htk with
        | a :: b :: c :: r, _ => rfl
    rw [ec, eo]
    exact fini hn
end K07
namespace K07
open PySem PySem.Spec L2 DL
local macro_rules | `(tactic| walk_at "nd") => `(tactic| simp only [icO, isN0, gStr, tdiE, tdiZT, gSortND, gSortL, gSortDX, tdListVals, tdSortItems, tdiVals, gDictC, tdLck, tdSetd, tdExt, gIntT, tdTruT, tdRaise0, gTupP, tdPt, gDictT, tdLc2T, tdLcN, gLenN, tdValsI, tdSortSet, gCatB, gEq_bb, tdLcB, tdDNew, tdNNew, tdNGet, tdNPut, tdFGet, tdiF, tdDctF, tdDc, tdDcN, tdTru, tdDAugG, tdDictZ, tdCallV, tdLc2, ln_4, ln_5, ln_6, fmod_2, fdiv_2, gAddT, tdIdx, gdUnl, tdiD, gSortI, gMin2, gMax2, gTuple, gDictP, tdLcT, lcT, setD, unsetD, tdKGet, tdKGet2, tdGet2, tdPop, tdSeq, tdAsg, tdV, gdName, tdAnd, tdOr, tdNot, tdB, tdOp, tdCB, tdCons, tdNil, tdC, tdAug, tdSl, tdP, tdRet, tdTup, tdIf, tdIfS, gOrd, gI0, gI, gLen, gIx, gAdd, gInt, vw, ixP, gSl, tdDrop, tdRetN, tdNext, gIn_sc, gIn_ts, gIn_ls, gIn_t2, gIn_l2, gIn_l4, tdApp, sl_0, sl_1, sl_2, sl_3, sl_4, sl_5, ff, tt', true_and, id,
  eqS, tdFor, tdiT, tdiL, tdiR, tdXp, gList, gEq_ns, tdJoin, gJoin, vwS, gMul, gMod, gDiv, gPow, gI, tdAugS, gdSub, gSet, ixN_2, ixN_3, atI_3, atI_4, gEq_ss, gEq_ii, tdDict, tdPairs, tdNeg, Option.isNone_none, Option.isNone_some, gIsi, tdGet, tdDPut, tdDAug, tdIsN, tdNotN, DO.dic.injEq, Option.isNone_none, Option.isNone_some, gIn_l2, gIn_t2, Option.getD_some, tdLc, gMax, tdNoP, forR, tdRaise, tdCall, tdNotV, tdAndV, tdOrV, tdBox, tdZ, gdTup, gdCons, gdNil, tdBreak, tdCont, tdYes, icast, icast1, icast2, icast3, tdLst, gIn_l4, icastL, icastE, icastZ, ln_0, ln_1, ln_2, ln_3,
  List.getElem?_cons_zero, List.getElem?_cons_succ, List.set_cons_zero, List.set_cons_succ, Option.some.injEq, exists_eq_left', exists_eq_left, D.bl.injEq, decide_eq_true_eq,
  tdFldC, tdMeth, tdMake, tdPutF, tdAugF, D.ref.injEq, DO.ins.injEq, and_assoc, DL.gSub, D.int.injEq, D.str.injEq, sup_same, eq_self, not_true_eq_false, not_false_eq_true, Bool.false_eq_true, Bool.not_eq_true, decide_not, atIn, atI_0, atI_1, atI_2, List.getElem?_map, Option.map_some, Option.map_none, decide_true, decide_false, Bool.not_true, Bool.not_false, if_true, if_false, lm_0, lm_1, lm_2, List.length_map, exists_and_left, *])
variable {P : Program} {w : World} {K : PySem.W.Frag} {mg : Str → Option Value} {base : Heap}
/-- a literal's value -/
def lv (f : List Bool) (l : Nat) : Bool := f.getD (l / 2) false != (l % 2 == 1)
def gvals : List Bool → List (Nat × Nat) → List Bool
  | f, [] => f
  | f, p :: gs => gvals (f ++ [lv f p.1 && lv f p.2]) gs
def Net.vals (n : Net) (row : List Bool) : List Bool := gvals (false :: row) n.gs
def Net.out (n : Net) (st inp : List Bool) : List Bool := n.os.map (lv (n.vals (inp ++ st)))
def Net.nxt (n : Net) (st inp : List Bool) : List Bool := n.ns.map (lv (n.vals (inp ++ st)))
abbrev bD (f : List Bool) : List D := f.map D.bl
theorem gvals_len : ∀ (gs : List (Nat × Nat)) (f : List Bool), (gvals f gs).length = f.length + gs.length
  | [], f => rfl
  | p :: gs, f => by
    unfold gvals
    rw [gvals_len gs, List.length_append, List.length_cons, List.length_cons]
    show f.length + (0 + 1) + gs.length = _
    omega
theorem vals_len (n : Net) (row : List Bool) : (n.vals row).length = 1 + row.length + n.gs.length := by
  unfold Net.vals
  rw [gvals_len, List.length_cons]
  omega
theorem lv_at {f : List Bool} {l : Nat} (h : l / 2 < f.length) : atI (bD f) ((l / 2 : Nat) : Int) = some (.bl (f.getD (l / 2) false)) := by
  rw [atIn, List.getElem?_map, List.getD_eq_getElem?_getD, List.getElem?_eq_getElem h]
  rfl
theorem lv_odd (l : Nat) : decide (l % 2 = 1) = (l % 2 == 1) := rfl
theorem lv_ne (f : List Bool) (l : Nat) : (!decide (f.getD (l / 2) false = (l % 2 == 1))) = lv f l := by
  unfold lv
  cases f.getD (l / 2) false <;> cases (l % 2 == 1) <;> rfl
theorem gvals_snoc : ∀ (gs : List (Nat × Nat)) (f : List Bool) (p : Nat × Nat), gvals f (gs ++ [p]) = gvals f gs ++ [lv (gvals f gs) p.1 && lv (gvals f gs) p.2]
  | [], f, p => rfl
  | q :: gs, f, p => gvals_snoc gs _ p
/-- the values of the first j nodes -/
def Net.part (n : Net) (row : List Bool) (j : Nat) : List Bool := gvals (false :: row) (n.gs.take (j - (row.length + 1)))
theorem part_len (n : Net) (row : List Bool) {j : Nat} (h : j ≤ row.length + 1 + n.gs.length) : (n.part row j).length = max j (row.length + 1) := by
  unfold Net.part
  rw [gvals_len, List.length_take, List.length_cons]
  omega
theorem part_all (n : Net) (row : List Bool) : n.part row (1 + row.length + n.gs.length) = n.vals row := by
  unfold Net.part Net.vals
  rw [show 1 + row.length + n.gs.length - (row.length + 1) = n.gs.length by omega, List.take_length]
theorem part_low (n : Net) (row : List Bool) {j : Nat} (h : j < row.length + 1) : n.part row (j + 1) = n.part row j := by
  unfold Net.part
  rw [show j + 1 - (row.length + 1) = 0 by omega, show j - (row.length + 1) = 0 by omega]
theorem part_up (n : Net) (row : List Bool) {j : Nat} {p : Nat × Nat} (h : row.length + 1 ≤ j) (hp : n.gs[j - (row.length + 1)]? = some p) : n.part row (j + 1) = n.part row j ++ [lv (n.part row j) p.1 && lv (n.part row j) p.2] := by
  unfold Net.part
  rw [show j + 1 - (row.length + 1) = (j - (row.length + 1)) + 1 by omega, List.take_add_one, hp]
  exact gvals_snoc _ _ _
theorem lit_val {S : Store} {p : Addr} {f : List Bool} {l : Nat} {Q : D → Store → Prop} {i : Nat} {ρ : Rho} {m : Nat} (h3 : ρ[m]? = some (some (.ref p))) (hi : ρ[i]? = some (some (nat l))) (hs : S p = some (.lst (bD f))) (hl : l / 2 < f.length) (q : Q (.bl (lv f l)) S) :
    tdOp (gEq not) (tdOp gIx (tdV m) (tdOp gDiv (tdV i) (tdC (D.int 2)))) (tdOp (gEq id) (tdOp gMod (tdV i) (tdC (D.int 2))) (tdC (D.int 1))) ρ S Q := by
  have hix := lv_at hl
  rw [← lv_ne, ← ic1] at q
  walk_at "nd"
  exact ⟨⟨by decide, by decide⟩, by first | exact ⟨by decide, q⟩ | exact ⟨by decide, trivial⟩⟩
theorem and_val {S : Store} {p : Addr} {f : List Bool} {l1 l2 : Nat} {Q : D → Store → Prop} {i j : Nat} {ρ : Rho} {m : Nat} (h3 : ρ[m]? = some (some (.ref p))) (hi : ρ[i]? = some (some (nat l1))) (hj : ρ[j]? = some (some (nat l2))) (hs : S p = some (.lst (bD f)))
    (h1 : l1 / 2 < f.length) (h2 : l2 / 2 < f.length) (q : Q (.bl (lv f l1 && lv f l2)) S) :
    tdAndV (tdOp (gEq not) (tdOp gIx (tdV m) (tdOp gDiv (tdV i) (tdC (D.int 2)))) (tdOp (gEq id) (tdOp gMod (tdV i) (tdC (D.int 2))) (tdC (D.int 1))))
      (tdOp (gEq not) (tdOp gIx (tdV m) (tdOp gDiv (tdV j) (tdC (D.int 2)))) (tdOp (gEq id) (tdOp gMod (tdV j) (tdC (D.int 2))) (tdC (D.int 1)))) ρ S Q := by
  refine lit_val h3 hi hs h1 ⟨_, rfl, ?_⟩
  cases h : lv f l1 with
  | true =>
    rw [h, Bool.true_and] at q
    exact iteT (lit_val h3 hj hs h2 q)
  | false =>
    rw [h, Bool.false_and] at q
    exact iteF q
def m_law_values : M := fun ds S Q E => ∃ (n : Net) (row : List Bool), ds = [n.d, .tup (bD row), .non] ∧ n.ok ∧ row.length + 1 = n.start ∧ Q (.lst (bD (n.vals row))) S
theorem d__law_values (Z : Zf P w K mg base) : Ca P w K mg base 1 "_law_values" ["net", "row", "stuck"] m_law_values := by
  obtain ⟨fd, F, hb⟩ := Z.F__law_values
  refine ⟨_, fd, df_of (k := 0) F sc__law_values (fun cdv A outer s H E F0 E' B => (dss_cons (ds_set 3 nd__law_values (de_op od_catB (de_lst (da_cons de_bl da_nil)) (de_cT oc_list rfl Z.f_list bb_list (da_cons (dv 1) da_nil))))
    (dss_cons (ds_for (passes_of rfl) rfl (di_rng rfl Z.f_range (da_cons (de_op od_addT (de_op od_addT de_int (de_cB oc_len rfl Z.f_len bb_len (da_cons (dv 1) da_nil))) (de_cB oc_len rfl Z.f_len bb_len (da_cons (de_ix (dv 0) de_int) da_nil))) da_nil)) (dg_name 4 nd__law_values) (dss_cons (ds_if (dt_cmp (od_ord op_ge) (dv 4) (de_cB oc_len rfl Z.f_len bb_len (da_cons (dv 3) da_nil)) rfl) (dss_cons (ds_asg (de_ix (de_ix (dv 0) de_int) (de_op od_sub (de_op od_sub (dv 4) (de_cB oc_len rfl Z.f_len bb_len (da_cons (dv 1) da_nil))) de_int)) (dg_tup (n := 2) rfl (dgs_cons (dg_name 5 nd__law_values) (dgs_cons (dg_name 6 nd__law_values) dgs_nil))))
    (dss_one (ds_expr (de_app (dv 3) (de_and (de_cmp (od_ne B.units) (de_ix (dv 3) (de_op od_div (dv 5) de_int)) (de_cmp (od_eq B.units) (de_op od_mod (dv 5) de_int) de_int rfl) rfl) (de_one (de_cmp (od_ne B.units) (de_ix (dv 3) (de_op od_div (dv 6) de_int)) (de_cmp (od_eq B.units) (de_op od_mod (dv 6) de_int) de_int rfl) rfl))))))) dss_nil)
    (dss_one (ds_if (PW.pt (dw_and (dt_notN (dv 2)) (dw_and1 (dt_cmp (od_eq B.units) (de_ix (dv 2) de_int) (dv 4) rfl)))) (dss_one (ds_asg (de_ix (dv 2) de_int) (dg_sub (dv 3) (dv 4)))) dss_nil))))
    (dss_one (ds_ret (dz 3)))))) ?_, Z.g__law_values, F.kp, hb⟩
  rintro ds S Q E hl ⟨n, row, rfl, hn, hr, hq⟩
  rw [show startD N__law_values [n.d, .tup (bD row), .non] = [some n.d, some (.tup (bD row)), some .non, none, none, none, none] from rfl]
  clear hl
  have hrl : row.length ≤ 10 := by have := hn.i2; have := hn.f2; have : n.start = 1 + n.ni + n.fs.length := rfl; omega
  have hgl := hn.g1
  have hgg : ∀ (k : Nat) (p : Nat × Nat), n.gs[k]? = some p → p.1 < 2 * (row.length + 1 + k) ∧ p.2 < 2 * (row.length + 1 + k) := by rw [hr]; exact hn.g2
  clear hr
  have hnd : n.d = .tup [.tup (n.ins.map D.str), .tup (List.zipWith (fun x b => .tup [.str x, .bl b]) rgN n.fs), .tup (n.gs.map DL.prD), .tup (List.zipWith (fun x l => .tup [.str x, nat l]) ouN n.os), .tup (n.ns.map nat)] := rfl
  generalize D.tup (n.ins.map D.str) = c0 at hnd
  generalize D.tup (List.zipWith (fun x b => D.tup [.str x, .bl b]) rgN n.fs) = c1 at hnd
  generalize D.tup (List.zipWith (fun x l => D.tup [.str x, nat l]) ouN n.os) = c3 at hnd
  generalize D.tup (n.ns.map nat) = c4 at hnd
  rw [hnd]
  clear hnd
  refine seq_cut (fun ρ S1 => ∃ p, S p = none ∧ ρ = [some (.tup [c0, c1, .tup (n.gs.map DL.prD), c3, c4]), some (.tup (bD row)), some .non, some (.ref p), none, none, none] ∧ S1 = sup S p (.lst (bD (n.part row 0)))) (fun Rest hR => ?_) ?_
  · clear hq hn
    walk_at "nd"
    exact ⟨sz5 (show 0 + 1 + row.length ≤ 1000000 by omega), fun p hp => hR _ _ ⟨p, hp, rfl, by rw [show n.part row 0 = false :: row by unfold Net.part; rw [Nat.zero_sub, List.take_zero]; rfl]; rfl⟩⟩
  rintro ρ S1 ⟨p, hp, rfl, rfl⟩
  refine seq_cut (fun ρ S2 => ∃ x4 x5 x6, ρ = [some (.tup [c0, c1, .tup (n.gs.map DL.prD), c3, c4]), some (.tup (bD row)), some .non, some (.ref p), x4, x5, x6] ∧ S2 = sup S p (.lst (bD (n.vals row)))) (fun Rest hR => ?_) ?_
  · clear hq
    walk_at "nd"
    refine ⟨by omega, by omega, ?_⟩
    rw [rng_nat]
    refine for_ind (fun ds ρ S' => ∃ (j m : Nat) (x4 x5 x6 : Option D), ds = (List.range' j m).map nat ∧ j + m = 1 + row.length + n.gs.length ∧
      ρ = [some (.tup [c0, c1, .tup (n.gs.map DL.prD), c3, c4]), some (.tup (bD row)), some .non, some (.ref p), x4, x5, x6] ∧ S' = sup S p (.lst (bD (n.part row j)))) ?_ ?_ _ _ _
      ⟨0, 1 + row.length + n.gs.length, none, none, none, rfl, by omega, rfl, rfl⟩
    · rintro ρ S' ⟨j, m, x4, x5, x6, e1, e2, rfl, rfl⟩
      have hm : m = 0 := by
        cases m with
        | zero => rfl
        | succ m => rw [List.range'_succ] at e1; cases e1
      have hj : j = 1 + row.length + n.gs.length := by omega
      subst hj
      rw [part_all]
      exact hR _ _ ⟨x4, x5, x6, rfl, rfl⟩
    · rintro d ds ρ S' W hW ⟨j, m, x4, x5, x6, e1, e2, rfl, rfl⟩
      cases m with
      | zero => cases e1
      | succ m =>
        rw [List.range'_succ, List.map_cons] at e1
        injection e1 with e1 e5
        subst e1 e5
        clear hR
        show tdSeq _ _ _ [some (.tup [c0, c1, .tup (n.gs.map DL.prD), c3, c4]), some (.tup (bD row)), some .non, some (.ref p), some (nat j), x5, x6] _
        refine seq_cut (fun ρ S1 => ∃ x5 x6, ρ = [some (.tup [c0, c1, .tup (n.gs.map DL.prD), c3, c4]), some (.tup (bD row)), some .non, some (.ref p), some (nat j), x5, x6] ∧ S1 = sup S p (.lst (bD (n.part row (j + 1))))) (fun Rest2 hR2 => ?_) ?_
        · clear hW
          have hpl := part_len n row (j := j) (by omega)
          refine ifS_cut (decide (row.length + 1 ≤ j)) (fun Q' q => ?_) (fun hb3 => ?_) (fun hb3 => ?_)
          · have e0 : decide (row.length + 1 ≤ j) = decide ((((n.part row j).length : Nat) : Int) ≤ (j : Int)) := by
              by_cases h : row.length + 1 ≤ j
              · rw [decide_eq_true h, decide_eq_true (by omega)]
              · rw [decide_eq_false h, decide_eq_false (by omega)]
            rw [e0] at q
            clear hpl e0 hR2
            walk_at "nd"
          · have hj := of_decide_eq_true hb3
            obtain ⟨pp, hpp⟩ : ∃ pp, n.gs[j - (row.length + 1)]? = some pp := ⟨_, List.getElem?_eq_getElem (show j - (row.length + 1) < n.gs.length by omega)⟩
            have hg2 := hgg _ _ hpp
            have hlen : (n.part row j).length = j := by omega
            have hup := part_up n row hj hpp
            have e0 : (j : Int) - ((row.length : Nat) : Int) - 1 = ((j - (row.length + 1) : Nat) : Int) := by omega
            refine seq_cut (fun ρ S1 => ρ = [some (.tup [c0, c1, .tup (n.gs.map DL.prD), c3, c4]), some (.tup (bD row)), some .non, some (.ref p), some (nat j), some (nat pp.1), some (nat pp.2)] ∧ S1 = sup S p (.lst (bD (n.part row j)))) (fun Rest3 hR3 => ?_) ?_
            · clear hR2 hup hlen hpl hg2 hgg hn
              walk_at "nd"
              exact ⟨_, rfl, rfl, _, _, rfl, _, _, rfl, rfl, hR3 _ _ ⟨rfl, rfl⟩⟩
            rintro ρ S1 ⟨rfl, rfl⟩
            refine ⟨.ref p, rfl, ⟨_, _, rfl, sup_same⟩, ?_⟩
            refine and_val (f := n.part row j) rfl rfl rfl sup_same (by omega) (by omega) ?_
            refine ⟨p, _, rfl, sup_same, by rw [List.length_map, hlen]; exact Nat.lt_of_lt_of_le (show j < 1000 by omega) (sz5 (by omega)), hR2 _ _ ⟨_, _, rfl, ?_⟩⟩
            rw [sup_sup, hup]
            unfold bD
            rw [List.map_append]
            rfl
          · have hj := of_decide_eq_false hb3
            rw [part_low n row (by omega)] at hR2
            exact hR2 _ _ ⟨_, _, rfl, rfl⟩
        rintro ρ S1 ⟨x5, x6, rfl, rfl⟩
        clear hn
        have hout := hW _ _ ⟨j + 1, m, some (nat j), x5, x6, rfl, by omega, rfl, rfl⟩
        clear hW
        walk_at "nd"
  rintro ρ S2 ⟨x4, x5, x6, rfl, rfl⟩
  clear hn
  refine ⟨p, _, rfl, sup_same, ?_⟩
  rw [sdel_sup hp]
  exact fini hq
end K07
namespace K07
open PySem PySem.Spec L2 DL
local macro_rules | `(tactic| walk_at "nd") => `(tactic| simp only [icO, isN0, gStr, tdiE, tdiZT, gSortND, gSortL, gSortDX, tdListVals, tdSortItems, tdiVals, gDictC, tdLck, tdSetd, tdExt, gIntT, tdTruT, tdRaise0, gTupP, tdPt, gDictT, tdLc2T, tdLcN, gLenN, tdValsI, tdSortSet, gCatB, gEq_bb, tdLcB, tdDNew, tdNNew, tdNGet, tdNPut, tdFGet, tdiF, tdDctF, tdDc, tdDcN, tdTru, tdDAugG, tdDictZ, tdCallV, tdLc2, ln_4, ln_5, ln_6, fmod_2, fdiv_2, gAddT, tdIdx, gdUnl, tdiD, gSortI, gMin2, gMax2, gTuple, gDictP, tdLcT, lcT, setD, unsetD, tdKGet, tdKGet2, tdGet2, tdPop, tdSeq, tdAsg, tdV, gdName, tdAnd, tdOr, tdNot, tdB, tdOp, tdCB, tdCons, tdNil, tdC, tdAug, tdSl, tdP, tdRet, tdTup, tdIf, tdIfS, gOrd, gI0, gI, gLen, gIx, gAdd, gInt, vw, ixP, gSl, tdDrop, tdRetN, tdNext, gIn_sc, gIn_ts, gIn_ls, gIn_t2, gIn_l2, gIn_l4, tdApp, sl_0, sl_1, sl_2, sl_3, sl_4, sl_5, ff, tt', true_and, id,
  eqS, tdFor, tdiT, tdiL, tdiR, tdXp, gList, gEq_ns, tdJoin, gJoin, vwS, gMul, gMod, gDiv, gPow, gI, tdAugS, gdSub, gSet, ixN_2, ixN_3, atI_3, atI_4, gEq_ss, gEq_ii, tdDict, tdPairs, tdNeg, Option.isNone_none, Option.isNone_some, gIsi, tdGet, tdDPut, tdDAug, tdIsN, tdNotN, DO.dic.injEq, Option.isNone_none, Option.isNone_some, gIn_l2, gIn_t2, Option.getD_some, tdLc, gMax, tdNoP, forR, tdRaise, tdCall, tdNotV, tdAndV, tdOrV, tdBox, tdZ, gdTup, gdCons, gdNil, tdBreak, tdCont, tdYes, icast, icast1, icast2, icast3, tdLst, gIn_l4, icastL, icastE, icastZ, ln_0, ln_1, ln_2, ln_3,
  List.getElem?_cons_zero, List.getElem?_cons_succ, List.set_cons_zero, List.set_cons_succ, Option.some.injEq, exists_eq_left', exists_eq_left, D.bl.injEq, decide_eq_true_eq,
  tdFldC, tdMeth, tdMake, tdPutF, tdAugF, D.ref.injEq, DO.ins.injEq, and_assoc, DL.gSub, D.int.injEq, D.str.injEq, sup_same, eq_self, not_true_eq_false, not_false_eq_true, Bool.false_eq_true, Bool.not_eq_true, decide_not, atIn, atI_0, atI_1, atI_2, List.getElem?_map, Option.map_some, Option.map_none, decide_true, decide_false, Bool.not_true, Bool.not_false, if_true, if_false, lm_0, lm_1, lm_2, List.length_map, exists_and_left, *])
variable {P : Program} {w : World} {K : PySem.W.Frag} {mg : Str → Option Value} {base : Heap}
theorem zipW_map {α β γ : Type} (f : α → β → γ) : ∀ (xs : List α) (ys : List β), List.zipWith f xs ys = (xs.zip ys).map fun p => f p.1 p.2
  | [], _ => by simp
  | _ :: _, [] => by simp
  | x :: xs, y :: ys => by
    rw [List.zipWith_cons_cons, List.zip_cons_cons, List.map_cons, zipW_map f xs ys]
theorem zip_snd {α β : Type} : ∀ (xs : List α) (ys : List β), ys.length ≤ xs.length → (xs.zip ys).map (fun p => p.2) = ys
  | [], [], _ => rfl
  | [], _ :: _, h => by simp at h
  | _ :: _, [], _ => by simp
  | x :: xs, y :: ys, h => by
    rw [List.zip_cons_cons, List.map_cons, zip_snd xs ys (by simpa using h)]
theorem zip_fst' {α β : Type} : ∀ (xs : List α) (ys : List β), (xs.zip ys).map (fun p => p.1) = xs.take ys.length
  | [], [] => rfl
  | [], _ :: _ => rfl
  | _ :: _, [] => by simp
  | x :: xs, y :: ys => by
    rw [List.zip_cons_cons, List.map_cons, zip_fst' xs ys, List.length_cons, List.take_succ_cons]
def Net.rgD (n : Net) : List D := (rgN.zip n.fs).map fun p => .tup [.str p.1, .bl p.2]
def Net.ouD (n : Net) : List D := (ouN.zip n.os).map fun p => .tup [.str p.1, nat p.2]
theorem Net.d_eq (n : Net) : n.d = .tup [.tup (n.ins.map D.str), .tup n.rgD, .tup (n.gs.map DL.prD), .tup n.ouD, .tup (n.ns.map nat)] := by
  unfold Net.d Net.rgD Net.ouD
  rw [zipW_map, zipW_map]
/-- a literal's value, of a list that is told -/
theorem lit_valF {S : Store} {f : List Bool} {l : Nat} {Q : D → Store → Prop} {i : Nat} {ρ : Rho} {m : Nat} (h3 : ρ[m]? = some (some (.lst (bD f)))) (hi : ρ[i]? = some (some (nat l))) (hl : l / 2 < f.length) (q : Q (.bl (lv f l)) S) :
    tdOp (gEq not) (tdOp gIx (tdV m) (tdOp gDiv (tdV i) (tdC (D.int 2)))) (tdOp (gEq id) (tdOp gMod (tdV i) (tdC (D.int 2))) (tdC (D.int 1))) ρ S Q := by
  have hix := lv_at hl
  rw [← lv_ne, ← ic1] at q
  walk_at "nd"
  exact ⟨⟨by decide, by decide⟩, by first | exact ⟨by decide, q⟩ | exact ⟨by decide, trivial⟩⟩
def rowD (r : List Bool) : D := .tup (bD r)
theorem rowD_app (a b : List Bool) : D.tup (bD a ++ bD b) = rowD (a ++ b) := by unfold rowD bD; rw [List.map_append]
theorem Net.ok.lits {n : Net} (h : n.ok) {row : List Bool} (hr : row.length + 1 = n.start) {l : Nat} (hl : l ∈ n.os ∨ l ∈ n.ns) : l / 2 < (n.vals row).length := by
  rw [vals_len]
  have : l < 2 * n.size := by
    rcases hl with h1 | h1
    · exact h.o3 l h1
    · exact h.n2 l h1
  unfold Net.size at this
  omega
def m_law_clock : M := fun ds S Q E => ∃ (n : Net) (st inp : List Bool), ds = [n.d, rowD st, rowD inp, .non] ∧ n.ok ∧ st.length = n.fs.length ∧ inp.length = n.ni ∧ Q (.tup [rowD (n.out st inp), rowD (n.nxt st inp)]) S
theorem d__law_clock (Z : Zf P w K mg base) : Ca P w K mg base 2 "_law_clock" ["net", "state", "inputs", "stuck"] m_law_clock := by
  obtain ⟨fd, F, hb⟩ := Z.F__law_clock
  refine ⟨_, fd, df_of (k := 1) F sc__law_clock (fun cdv A outer s H E F0 E' B => (dss_cons (ds_set 4 nd__law_clock (de_ca (d__law_values Z) (B.mono (by omega)) rfl (da_cons (dv 0) (da_cons (de_op od_addT (dv 2) (dv 1)) (da_cons (dv 3) da_nil)))))
    (dss_cons (ds_set 5 nd__law_clock (de_cT oc_tuple rfl Z.f_tuple bb_tuple (da_cons (de_lcT [6, 7] rfl rfl nd__law_clock (di_tup (de_ix (dv 0) de_int)) (blkOk_by (own := [("name", 6), ("literal", 7)]) (N := N__law_clock) (sc := defScope st__law_clock) (by decide +kernel)) (fun _ _ _ _ _ => pg_tup rfl (pgs_cons (pg_name (i := 6) nd__law_clock rfl (Or.inl rfl)) (pgs_cons (pg_name (i := 7) nd__law_clock rfl (Or.inl rfl)) pgs_nil))) (fun _ _ _ _ _ => dts_nil) (fun _ _ _ _ _ => (de_cmp (od_ne B.blk.units) (de_ix (dv 4) (de_op od_div (dv 7) de_int)) (de_cmp (od_eq B.blk.units) (de_op od_mod (dv 7) de_int) de_int rfl) rfl))) da_nil)))
    (dss_one (ds_ret (de_tup (da_cons (dv 5) (da_cons (de_cT oc_tuple rfl Z.f_tuple bb_tuple (da_cons (de_lc rfl nd__law_clock (di_tup (de_ix (dv 0) de_int)) (blkOk_by (own := [("literal", 7)]) (N := N__law_clock) (sc := defScope st__law_clock) (by decide +kernel)) (fun _ _ _ _ _ => pg_name (i := 7) nd__law_clock rfl (Or.inl rfl)) (fun _ _ _ _ _ => dts_nil) (fun _ _ _ _ _ => (de_cmp (od_ne B.blk.units) (de_ix (dv 4) (de_op od_div (dv 7) de_int)) (de_cmp (od_eq B.blk.units) (de_op od_mod (dv 7) de_int) de_int rfl) rfl))) da_nil)) da_nil)))))))) ?_, Z.g__law_clock, F.kp, hb⟩
  rintro ds S Q E hl ⟨n, st, inp, rfl, hn, h1, h2, hq⟩
  rw [show startD N__law_clock [n.d, rowD st, rowD inp, .non] = [some n.d, some (rowD st), some (rowD inp), some .non, none, none, none, none] from rfl]
  clear hl
  have hr : (inp ++ st).length + 1 = n.start := by rw [List.length_append]; unfold Net.start; omega
  have hlo : ∀ l, l ∈ n.os → l / 2 < (n.vals (inp ++ st)).length := fun l h => hn.lits hr (.inl h)
  have hln : ∀ l, l ∈ n.ns → l / 2 < (n.vals (inp ++ st)).length := fun l h => hn.lits hr (.inr h)
  have ho3 := hn.o3
  have hol : n.os.length ≤ ouN.length := by have := hn.o2; show _ ≤ 6; omega
  have hnl : n.ns.length ≤ 4 := by have := hn.n1; have := hn.f2; omega
  have hiz : (bD inp).length + (bD st).length ≤ 100 := by
    unfold bD
    rw [List.length_map, List.length_map]
    have := hn.i2; have := hn.f2; omega
  refine seq_cut (fun ρ S1 => ρ = [some n.d, some (rowD st), some (rowD inp), some .non, some (.lst (bD (n.vals (inp ++ st)))), none, none, none] ∧ S1 = S) (fun Rest hR => ?_) ?_
  · have hR := hR _ _ ⟨rfl, rfl⟩
    have e := rowD_app inp st
    unfold rowD at e hR ⊢
    clear hq
    walk_at "nd"
    exact ⟨sz5 (show n.ni + n.fs.length ≤ 1000000 by have := hn.i2; have := hn.f2; omega), n, inp ++ st, rfl, hn, hr, hR⟩
  rintro ρ S1 ⟨rfl, rfl⟩
  have hout : n.out st inp = n.os.map (lv (n.vals (inp ++ st))) := rfl
  have hnxt : n.nxt st inp = n.ns.map (lv (n.vals (inp ++ st))) := rfl
  rw [hout, hnxt] at hq
  generalize hvals : n.vals (inp ++ st) = vals at *
  rw [Net.d_eq]
  have hol2 : n.ouD = (ouN.zip n.os).map fun p => D.tup [.str p.1, nat p.2] := rfl
  generalize D.tup (n.ins.map D.str) = c0
  generalize D.tup n.rgD = c1
  generalize D.tup (n.gs.map DL.prD) = c2
  rw [hol2]
  refine seq_cut (fun ρ S2 => ρ = [some (.tup [c0, c1, c2, .tup ((ouN.zip n.os).map fun p => D.tup [.str p.1, nat p.2]), .tup (n.ns.map nat)]), some (rowD st), some (rowD inp), some D.non, some (.lst (bD vals)), some (rowD (n.os.map (lv vals))), none, none] ∧ S2 = S1) (fun Rest hR => ?_) ?_
  · have hR := hR _ _ ⟨rfl, rfl⟩
    refine ⟨_, rfl, _, rfl, ?_⟩
    show lcT [6, 7] _ _ _ ((ouN.zip n.os).map fun p => D.tup [.str p.1, nat p.2]) [] _ _
    refine lcT_m (fun p : Tx × Nat => D.bl (lv vals p.2)) (fun p => [D.str p.1, nat p.2]) (fun _ => rfl) _ _ _ (fun p hp Q' q => ?_) ?_ ?_
    · exact lit_valF (l := p.2) rfl rfl (hlo _ (List.of_mem_zip hp).2) q
    · rw [List.length_zip]; show 0 + min 6 _ ≤ _; omega
    · have e : [] ++ (ouN.zip n.os).map (fun p => D.bl (lv vals p.2)) = bD (n.os.map (lv vals)) := by
        have := zip_snd ouN n.os hol
        unfold bD
        rw [List.nil_append, List.map_map]
        conv => rhs; rw [← this, List.map_map]
        rfl
      rw [e]
      dsimp only [tdNil, tdCons]
      exact gTuple_lst (hR)
  rintro ρ S2 ⟨rfl, rfl⟩
  generalize D.tup ((ouN.zip n.os).map fun p => D.tup [.str p.1, nat p.2]) = c3
  refine ⟨_, rfl, _, rfl, _, rfl, ?_⟩
  show lcR 7 _ _ _ (n.ns.map nat) [] _ _
  refine lcR_n (fun l => D.bl (lv vals l)) n.ns [] _ (fun l hl Q' q => lit_valF (l := l) rfl rfl (hln _ hl) q) (by show 0 + n.ns.length ≤ _; omega) ?_
  have e : [] ++ n.ns.map (fun l => D.bl (lv vals l)) = bD (n.ns.map (lv vals)) := by
    unfold bD
    rw [List.nil_append, List.map_map]
    rfl
  rw [e]
  dsimp only [tdNil, tdCons]
  exact gTuple_lst ⟨sz5 (show 2 ≤ 1000000 by decide), fini hq⟩
theorem first_go {S : Store} {n : Net} (hn : n.ok) {vs : List Nat} {a b : Nat} {te : TD} {ρ : Rho} {Q : List D → Store → Prop} (hv : vs = [a, b]) (h : ∀ (x : Tx) (c : Bool) (Q' : D → Store → Prop), Q' (.bl c) S → te (setD (unsetD ρ vs) vs [.str x, .bl c]) S Q') (q : Q (bD n.fs) S) :
    lcT vs tdYes te ρ n.rgD [] S Q := by
  show lcT _ _ _ _ ((rgN.zip n.fs).map fun p => D.tup [.str p.1, .bl p.2]) [] _ _
  refine lcT_m (fun p : Tx × Bool => D.bl p.2) (fun p => [D.str p.1, .bl p.2]) (fun _ => by rw [hv]; rfl) _ _ _ (fun p hp Q' q => h _ _ _ q) ?_ ?_
  · rw [List.length_zip]; show 0 + min 4 _ ≤ _; omega
  · have e : [] ++ (rgN.zip n.fs).map (fun p => D.bl p.2) = bD n.fs := by
      have := zip_snd rgN n.fs hn.f2
      unfold bD
      rw [List.nil_append]
      conv => rhs; rw [← this, List.map_map]
      rfl
    rw [e]
    exact q
end K07
namespace K07
open PySem PySem.Spec L2 DL
local macro_rules | `(tactic| walk_at "nd") => `(tactic| simp only [icO, isN0, gStr, tdiE, tdiZT, gSortND, gSortL, gSortDX, tdListVals, tdSortItems, tdiVals, gDictC, tdLck, tdSetd, tdExt, gIntT, tdTruT, tdRaise0, gTupP, tdPt, gDictT, tdLc2T, tdLcN, gLenN, tdValsI, tdSortSet, gCatB, gEq_bb, tdLcB, tdDNew, tdNNew, tdNGet, tdNPut, tdFGet, tdiF, tdDctF, tdDc, tdDcN, tdTru, tdDAugG, tdDictZ, tdCallV, tdLc2, ln_4, ln_5, ln_6, fmod_2, fdiv_2, gAddT, tdIdx, gdUnl, tdiD, gSortI, gMin2, gMax2, gTuple, gDictP, tdLcT, lcT, setD, unsetD, tdKGet, tdKGet2, tdGet2, tdPop, tdSeq, tdAsg, tdV, gdName, tdAnd, tdOr, tdNot, tdB, tdOp, tdCB, tdCons, tdNil, tdC, tdAug, tdSl, tdP, tdRet, tdTup, tdIf, tdIfS, gOrd, gI0, gI, gLen, gIx, gAdd, gInt, vw, ixP, gSl, tdDrop, tdRetN, tdNext, gIn_sc, gIn_ts, gIn_ls, gIn_t2, gIn_l2, gIn_l4, tdApp, sl_0, sl_1, sl_2, sl_3, sl_4, sl_5, ff, tt', true_and, id,
  eqS, tdFor, tdiT, tdiL, tdiR, tdXp, gList, gEq_ns, tdJoin, gJoin, vwS, gMul, gMod, gDiv, gPow, gI, tdAugS, gdSub, gSet, ixN_2, ixN_3, atI_3, atI_4, gEq_ss, gEq_ii, tdDict, tdPairs, tdNeg, Option.isNone_none, Option.isNone_some, gIsi, tdGet, tdDPut, tdDAug, tdIsN, tdNotN, DO.dic.injEq, Option.isNone_none, Option.isNone_some, gIn_l2, gIn_t2, Option.getD_some, tdLc, gMax, tdNoP, forR, tdRaise, tdCall, tdNotV, tdAndV, tdOrV, tdBox, tdZ, gdTup, gdCons, gdNil, tdBreak, tdCont, tdYes, icast, icast1, icast2, icast3, tdLst, gIn_l4, icastL, icastE, icastZ, ln_0, ln_1, ln_2, ln_3,
  List.getElem?_cons_zero, List.getElem?_cons_succ, List.set_cons_zero, List.set_cons_succ, Option.some.injEq, exists_eq_left', exists_eq_left, D.bl.injEq, decide_eq_true_eq,
  tdFldC, tdMeth, tdMake, tdPutF, tdAugF, D.ref.injEq, DO.ins.injEq, and_assoc, DL.gSub, D.int.injEq, D.str.injEq, sup_same, eq_self, not_true_eq_false, not_false_eq_true, Bool.false_eq_true, Bool.not_eq_true, decide_not, atIn, atI_0, atI_1, atI_2, List.getElem?_map, Option.map_some, Option.map_none, decide_true, decide_false, Bool.not_true, Bool.not_false, if_true, if_false, lm_0, lm_1, lm_2, List.length_map, exists_and_left, *])
variable {P : Program} {w : World} {K : PySem.W.Frag} {mg : Str → Option Value} {base : Heap}
theorem lcR_map {α : Type} {v : Nat} {te : TD} {ρ : Rho} {Q : List D → Store → Prop} (f g : α → D) : ∀ (L : List α) (acc : List D) (S : Store), (∀ k ∈ L, ∀ Q' : D → Store → Prop, Q' (g k) S → te (ρ.set v (some (f k))) S Q') →
    acc.length + L.length ≤ 100000 → Q (acc ++ L.map g) S → lcR v tdYes te ρ (L.map f) acc S Q
  | [], acc, S, _, _, q => by
    rw [List.map_nil, List.append_nil] at q
    exact q
  | k :: L, acc, S, ht, hl, q => by
    rw [List.length_cons] at hl
    rw [List.map_cons]
    unfold lcR
    show if true = true then (te (ρ.set v (some (f k))) S fun y S2 => acc.length < sizeLine ∧ lcR v tdYes te ρ (L.map f) (acc ++ [y]) S2 Q) else (lcR v tdYes te ρ (L.map f) acc S Q)
    refine iteT (ht k List.mem_cons_self _ ⟨Nat.lt_of_lt_of_le (show acc.length < 100001 by omega) (sz5 (by omega)), ?_⟩)
    refine lcR_map f g L (acc ++ [g k]) S (fun k hk => ht k (List.mem_cons_of_mem _ hk)) (by rw [List.length_append]; show acc.length + 1 + L.length ≤ _; omega) ?_
    rw [List.append_assoc]
    exact q
theorem lcR_fil {α : Type} {v : Nat} {tt : TDT} {te : TD} {ρ : Rho} {Q : List D → Store → Prop} (f g : α → D) (p : α → Bool) : ∀ (L : List α) (acc : List D) (S : Store), (∀ k ∈ L, ∀ Q' : Bool → Store → Prop, Q' (p k) S → tt (ρ.set v (some (f k))) S Q') → (∀ k ∈ L, ∀ Q' : D → Store → Prop, Q' (g k) S → te (ρ.set v (some (f k))) S Q') →
    acc.length + L.length ≤ 100000 → Q (acc ++ (L.filter p).map g) S → lcR v tt te ρ (L.map f) acc S Q
  | [], acc, S, _, _, _, q => by
    rw [List.filter_nil, List.map_nil, List.append_nil] at q
    exact q
  | k :: L, acc, S, hp, ht, hl, q => by
    rw [List.length_cons] at hl
    rw [List.map_cons]
    unfold lcR
    refine hp k List.mem_cons_self _ ?_
    cases e : p k with
    | true =>
      rw [List.filter_cons_of_pos e] at q
      refine iteT (ht k List.mem_cons_self _ ⟨Nat.lt_of_lt_of_le (show acc.length < 100001 by omega) (sz5 (by omega)), ?_⟩)
      refine lcR_fil f g p L (acc ++ [g k]) S (fun k hk => hp k (List.mem_cons_of_mem _ hk)) (fun k hk => ht k (List.mem_cons_of_mem _ hk)) (by rw [List.length_append]; show acc.length + 1 + L.length ≤ _; omega) ?_
      rw [List.append_assoc]
      exact q
    | false =>
      rw [List.filter_cons_of_neg (by rw [e]; simp)] at q
      refine iteF (lcR_fil f g p L acc S (fun k hk => hp k (List.mem_cons_of_mem _ hk)) (fun k hk => ht k (List.mem_cons_of_mem _ hk)) (by omega) q)
theorem lc2_map {α : Type} {v v1 : Nat} {ti1 : TDI} {te : TD} {ρ : Rho} {Q : List D → Store → Prop} (f : α → D) (g : α → List D) (m : Nat) : ∀ (L : List α) (acc : List D) (S : Store),
    (∀ x ∈ L, ∀ (acc' : List D) (Q' : List D → Store → Prop), acc'.length + m ≤ 100000 → Q' (acc' ++ g x) S → ti1 (ρ.set v (some (f x))) S fun es S1 => lcR v1 tdYes te (ρ.set v (some (f x))) es acc' S1 Q') →
    (∀ x ∈ L, (g x).length = m) → acc.length + m * L.length ≤ 100000 → Q (acc ++ L.flatMap g) S → lc2R v v1 ti1 te ρ (L.map f) acc S Q
  | [], acc, S, _, _, _, q => by
    rw [List.flatMap_nil, List.append_nil] at q
    exact q
  | x :: L, acc, S, ht, hg, hl, q => by
    rw [List.length_cons, Nat.mul_succ] at hl
    rw [List.map_cons]
    unfold lc2R
    refine ht x List.mem_cons_self acc _ (by omega) ?_
    refine lc2_map f g m L (acc ++ g x) S (fun k hk => ht k (List.mem_cons_of_mem _ hk)) (fun k hk => hg k (List.mem_cons_of_mem _ hk)) (by rw [List.length_append, hg x List.mem_cons_self]; omega) ?_
    rw [List.append_assoc, ← List.flatMap_cons]
    exact q
def rowsB : Nat → List (List Bool)
  | 0 => [[]]
  | k + 1 => (rowsB k).flatMap fun r => [r ++ [false], r ++ [true]]
theorem mem_rowsB : ∀ (k : Nat) (r : List Bool), r ∈ rowsB k ↔ r.length = k
  | 0, r => by
    show r ∈ [[]] ↔ _
    rw [List.mem_singleton, List.length_eq_zero_iff]
  | k + 1, r => by
    show r ∈ (rowsB k).flatMap _ ↔ _
    rw [List.mem_flatMap]
    constructor
    · rintro ⟨a, h1, h2⟩
      have h1 := (mem_rowsB k a).mp h1
      rcases List.mem_cons.mp h2 with rfl | h2
      · rw [List.length_append, h1]; rfl
      · rw [List.mem_singleton.mp h2, List.length_append, h1]; rfl
    · intro h
      have hn : r ≠ [] := fun z => by rw [z] at h; cases h
      refine ⟨r.dropLast, (mem_rowsB k _).mpr (by rw [List.length_dropLast, h]; rfl), ?_⟩
      have e := List.dropLast_concat_getLast hn
      cases hb : r.getLast hn with
      | false =>
        rw [hb] at e
        rw [e]
        exact List.mem_cons_self
      | true =>
        rw [hb] at e
        rw [e]
        exact List.mem_cons_of_mem _ List.mem_cons_self
theorem rowsB_len : ∀ k : Nat, (rowsB k).length = 2 ^ k
  | 0 => rfl
  | k + 1 => by
    show ((rowsB k).flatMap _).length = _
    have : ∀ l : List (List Bool), (l.flatMap fun r => [r ++ [false], r ++ [true]]).length = 2 * l.length := by
      intro l
      induction l with
      | nil => rfl
      | cons a l ih => rw [List.flatMap_cons, List.length_append, ih]; show 2 + 2 * l.length = 2 * (l.length + 1); omega
    rw [this, rowsB_len k, Nat.pow_succ]; omega
theorem rowsB_up {j k : Nat} (h : j ≤ k) (hk : k ≤ 8) : (rowsB j).length ≤ 256 := by
  rw [rowsB_len]
  exact Nat.le_trans (Nat.pow_le_pow_right (by decide) (show j ≤ 8 by omega)) (by decide)
def m_law_all_rows : M := fun ds S Q E => ∃ k : Nat, ds = [nat k] ∧ k ≤ 8 ∧ Q (.lst ((rowsB k).map rowD)) S
theorem d__law_all_rows (Z : Zf P w K mg base) : Ca P w K mg base 1 "_law_all_rows" ["count"] m_law_all_rows := by
  obtain ⟨fd, F, hb⟩ := Z.F__law_all_rows
  refine ⟨_, fd, df_of (k := 0) F sc__law_all_rows (fun cdv A outer s H E F0 E' B => (dss_cons (ds_set 1 nd__law_all_rows (de_lst (da_cons (de_tup da_nil) da_nil)))
    (dss_cons (ds_for (passes_of rfl) rfl (di_rng rfl Z.f_range (da_cons (dv 0) da_nil)) (dg_name 2 nd__law_all_rows) (dss_cons (ds_set 3 nd__law_all_rows (de_lst da_nil))
    (dss_cons (ds_for (passes_of rfl) rfl (di_lst (dv 1)) (dg_name 4 nd__law_all_rows) (dss_one (ds_set 3 nd__law_all_rows (de_op od_addT (dv 3) (de_lst (da_cons (de_op od_addT (dv 4) (de_tup (da_cons de_bl da_nil))) (da_cons (de_op od_addT (dv 4) (de_tup (da_cons de_bl da_nil))) da_nil)))))))
    (dss_one (ds_set 1 nd__law_all_rows (dv 3))))))
    (dss_one (ds_ret (dv 1)))))) ?_, Z.g__law_all_rows, F.kp, hb⟩
  rintro ds S Q E hl ⟨k, rfl, hk, hq⟩
  rw [show startD N__law_all_rows [nat k] = [some (nat k), none, none, none, none] from rfl]
  clear hl
  refine seq_cut (fun ρ S1 => ρ = [some (nat k), some (.lst ((rowsB 0).map rowD)), none, none, none] ∧ S = S1) (fun Rest hR => ?_) ?_
  · have hR := hR _ _ ⟨rfl, rfl⟩
    walk_at "nd"
    exact hR
  rintro ρ S1 ⟨rfl, rfl⟩
  refine seq_cut (fun ρ S1 => ∃ x2 x3 x4, ρ = [some (nat k), some (.lst ((rowsB k).map rowD)), x2, x3, x4] ∧ S = S1) (fun Rest hR => ?_) ?_
  · clear hq
    walk_at "nd"
    refine ⟨by omega, by omega, ?_⟩
    rw [rng_nat]
    refine for_ind (fun ds ρ S' => ∃ (j m : Nat) (x2 x3 x4 : Option D), ds = (List.range' j m).map nat ∧ j + m = k ∧ ρ = [some (nat k), some (.lst ((rowsB j).map rowD)), x2, x3, x4] ∧ S = S') ?_ ?_ _ _ _ ⟨0, k, none, none, none, rfl, by omega, rfl, rfl⟩
    · rintro ρ S' ⟨j, m, x2, x3, x4, e1, e2, rfl, rfl⟩
      have hm : m = 0 := by
        cases m with
        | zero => rfl
        | succ m => rw [List.range'_succ] at e1; cases e1
      obtain rfl : j = k := by omega
      exact hR _ _ ⟨_, _, _, rfl, rfl⟩
    · rintro d ds ρ S' W hW ⟨j, m, x2, x3, x4, e1, e2, rfl, rfl⟩
      cases m with
      | zero => cases e1
      | succ m =>
        rw [List.range'_succ, List.map_cons] at e1
        injection e1 with e1 e5
        subst e1 e5
        clear hR
        have hn := rowsB_up (j := j + 1) (k := k) (by omega) hk
        show tdSeq _ _ _ [some (nat k), some (.lst ((rowsB j).map rowD)), some (nat j), x3, x4] _
        refine seq_cut (fun ρ S1 => ρ = [some (nat k), some (.lst ((rowsB j).map rowD)), some (nat j), some (.lst []), x4] ∧ S = S1) (fun Rest hR => ?_) ?_
        · have hR := hR _ _ ⟨rfl, rfl⟩
          clear hW
          walk_at "nd"
        rintro ρ S1 ⟨rfl, rfl⟩
        refine seq_cut (fun ρ S1 => ∃ x4, ρ = [some (nat k), some (.lst ((rowsB j).map rowD)), some (nat j), some (.lst ((rowsB (j + 1)).map rowD)), x4] ∧ S = S1) (fun Rest hR => ?_) ?_
        · clear hW
          walk_at "nd"
          refine for_ind (fun ds ρ S' => ∃ (l acc : List (List Bool)) (x4 : Option D), ds = l.map rowD ∧ (∀ r ∈ l, r ∈ rowsB j) ∧ acc ++ l.flatMap (fun r => [r ++ [false], r ++ [true]]) = rowsB (j + 1) ∧ ρ = [some (nat k), some (.lst ((rowsB j).map rowD)), some (nat j), some (.lst (acc.map rowD)), x4] ∧ S = S') ?_ ?_ _ _ _ ⟨rowsB j, [], x4, rfl, fun r h => h, rfl, rfl, rfl⟩
          · rintro ρ S' ⟨l, acc, x4, e1, _, e2, rfl, rfl⟩
            have : l = [] := by
              cases l with
              | nil => rfl
              | cons _ _ => cases e1
            subst this
            rw [List.flatMap_nil, List.append_nil] at e2
            rw [e2]
            exact hR _ _ ⟨_, rfl, rfl⟩
          · rintro d ds ρ S' W hW ⟨l, acc, x4, e1, el, e2, rfl, rfl⟩
            cases l with
            | nil => cases e1
            | cons r l =>
              injection e1 with e1 e5
              subst e1 e5
              have h3 := congrArg List.length e2
              rw [List.flatMap_cons, List.length_append, List.length_append] at h3
              replace h3 : acc.length + (2 + (l.flatMap (fun r => [r ++ [false], r ++ [true]])).length) = (rowsB (j + 1)).length := h3
              have hrl : r.length ≤ 8 := by
                have := (mem_rowsB j r).mp (el r List.mem_cons_self)
                omega
              replace hW := hW [some (nat k), some (.lst ((rowsB j).map rowD)), some (nat j), some (.lst ((acc ++ [r ++ [false], r ++ [true]]).map rowD)), some (rowD r)] S ⟨l, acc ++ [r ++ [false], r ++ [true]], _, rfl, fun u hu => el u (List.mem_cons_of_mem _ hu), by rw [List.append_assoc, ← List.flatMap_cons (f := fun r : List Bool => [r ++ [false], r ++ [true]])]; exact e2, rfl, rfl⟩
              clear hR e2
              unfold rowD at hW ⊢
              clear el hn
              have hrb : (bD r).length ≤ 8 := by unfold bD; rw [List.length_map]; exact hrl
              generalize (rowsB j).map (fun r => D.tup (bD r)) = rj at *
              rw [List.map_append] at hW
              have hal : (acc.map fun r => D.tup (bD r)).length ≤ 256 := by rw [List.length_map]; have := rowsB_up (j := j + 1) (k := k) (by omega) hk; omega
              clear h3
              generalize (acc.map fun r => D.tup (bD r)) = ad at *
              walk_at "nd"
              refine ⟨sz5 (show r.length + 1 ≤ 1000000 by omega), sz5 (show r.length + 1 ≤ 1000000 by omega), sz5 (show ad.length + 2 ≤ 1000000 by omega), ?_⟩
              have e1 : [r ++ [false], r ++ [true]].map (fun r => D.tup (bD r)) = [D.tup (bD r ++ [D.bl false]), D.tup (bD r ++ [D.bl true])] := by
                unfold bD
                rw [List.map_cons, List.map_cons, List.map_append, List.map_append]
                rfl
              rw [← e1]
              exact hW
        rintro ρ S1 ⟨x4, rfl, rfl⟩
        exact ⟨_, rfl, hW _ _ ⟨j + 1, m, some (nat j), _, x4, rfl, by omega, rfl, rfl⟩⟩
  rintro ρ S1 ⟨x2, x3, x4, rfl, rfl⟩
  walk_at "nd"
  exact fini hq
end K07
namespace K07
open PySem PySem.Spec L2 DL
local macro_rules | `(tactic| walk_at "nd") => `(tactic| simp only [icO, isN0, gStr, tdiE, tdiZT, gSortND, gSortL, gSortDX, tdListVals, tdSortItems, tdiVals, gDictC, tdLck, tdSetd, tdExt, gIntT, tdTruT, tdRaise0, gTupP, tdPt, gDictT, tdLc2T, tdLcN, gLenN, tdValsI, tdSortSet, gCatB, gEq_bb, tdLcB, tdDNew, tdNNew, tdNGet, tdNPut, tdFGet, tdiF, tdDctF, tdDc, tdDcN, tdTru, tdDAugG, tdDictZ, tdCallV, tdLc2, ln_4, ln_5, ln_6, fmod_2, fdiv_2, gAddT, tdIdx, gdUnl, tdiD, gSortI, gMin2, gMax2, gTuple, gDictP, tdLcT, lcT, setD, unsetD, tdKGet, tdKGet2, tdGet2, tdPop, tdSeq, tdAsg, tdV, gdName, tdAnd, tdOr, tdNot, tdB, tdOp, tdCB, tdCons, tdNil, tdC, tdAug, tdSl, tdP, tdRet, tdTup, tdIf, tdIfS, gOrd, gI0, gI, gLen, gIx, gAdd, gInt, vw, ixP, gSl, tdDrop, tdRetN, tdNext, gIn_sc, gIn_ts, gIn_ls, gIn_t2, gIn_l2, gIn_l4, tdApp, sl_0, sl_1, sl_2, sl_3, sl_4, sl_5, ff, tt', true_and, id,
  eqS, tdFor, tdiT, tdiL, tdiR, tdXp, gList, gEq_ns, tdJoin, gJoin, vwS, gMul, gMod, gDiv, gPow, gI, tdAugS, gdSub, gSet, ixN_2, ixN_3, atI_3, atI_4, gEq_ss, gEq_ii, tdDict, tdPairs, tdNeg, Option.isNone_none, Option.isNone_some, gIsi, tdGet, tdDPut, tdDAug, tdIsN, tdNotN, DO.dic.injEq, Option.isNone_none, Option.isNone_some, gIn_l2, gIn_t2, Option.getD_some, tdLc, gMax, tdNoP, forR, tdRaise, tdCall, tdNotV, tdAndV, tdOrV, tdBox, tdZ, gdTup, gdCons, gdNil, tdBreak, tdCont, tdYes, icast, icast1, icast2, icast3, tdLst, gIn_l4, icastL, icastE, icastZ, ln_0, ln_1, ln_2, ln_3,
  List.getElem?_cons_zero, List.getElem?_cons_succ, List.set_cons_zero, List.set_cons_succ, Option.some.injEq, exists_eq_left', exists_eq_left, D.bl.injEq, decide_eq_true_eq,
  tdFldC, tdMeth, tdMake, tdPutF, tdAugF, D.ref.injEq, DO.ins.injEq, and_assoc, DL.gSub, D.int.injEq, D.str.injEq, sup_same, eq_self, not_true_eq_false, not_false_eq_true, Bool.false_eq_true, Bool.not_eq_true, decide_not, atIn, atI_0, atI_1, atI_2, List.getElem?_map, Option.map_some, Option.map_none, decide_true, decide_false, Bool.not_true, Bool.not_false, if_true, if_false, lm_0, lm_1, lm_2, List.length_map, exists_and_left, *])
variable {P : Program} {w : World} {K : PySem.W.Frag} {mg : Str → Option Value} {base : Heap}
abbrev Part := Bool × Tx
def kindT (b : Bool) : Tx := if b then tx "any" else tx "thing"
def partD (p : Part) : D := .tup [.str (kindT p.1), .str p.2]
structure Atom where
  w : Tx
  ps : List Part
def Atom.d (a : Atom) : D := .tup [.str a.w, .tup (a.ps.map partD)]
def bodyD (b : List Atom) : D := .tup (b.map fun a => .tup [.bl true, a.d])
structure Rule where
  h : Atom
  b : List Atom
def Rule.d (r : Rule) : D := .tup [r.h.d, bodyD r.b]
abbrev Rules := List (Tx × Rule)
def rulesD (rs : Rules) : D := .dct (rs.map fun p => Sum.inr p.1) (rs.map fun p => p.2.d)
abbrev Kn := List (Tx × Tx)
def knD (k : Kn) : D := .dct (k.map fun p => Sum.inr p.1) (k.map fun p => .str p.2)
structure Fact where
  w : Tx
  ts : List Tx
  deriving DecidableEq
def Fact.atom (f : Fact) : Atom := ⟨f.w, f.ts.map fun t => (false, t)⟩
def Fact.d (f : Fact) : D := f.atom.d
theorem kind_any (b : Bool) : decide (kindT b = tx "any") = b := by cases b <;> decide
theorem lc2T_map {α : Type} {vs : List Nat} {v1 : Nat} {ti1 : TDI} {tt : TDT} {te : TD} {ρ : Rho} {Q : List D → Store → Prop} (f g : α → List D) (m : Nat) : ∀ (L : List α) (acc : List D) (S : Store), (∀ x ∈ L, (f x).length = vs.length) →
    (∀ x ∈ L, ∀ (acc' : List D) (Q' : List D → Store → Prop), acc'.length + (g x).length ≤ m → Q' (acc' ++ g x) S → ti1 (setD ρ vs (f x)) S fun es S1 => lcR v1 tt te (setD ρ vs (f x)) es acc' S1 Q') →
    acc.length + (L.flatMap g).length ≤ m → Q (acc ++ L.flatMap g) S → lc2T vs v1 ti1 tt te ρ (L.map fun x => .tup (f x)) acc S Q
  | [], acc, S, _, _, _, q => by
    rw [List.flatMap_nil, List.append_nil] at q
    exact q
  | x :: L, acc, S, hf, ht, hl, q => by
    rw [List.flatMap_cons] at hl
    rw [List.length_append] at hl
    rw [List.map_cons]
    unfold lc2T
    refine ⟨f x, rfl, hf x List.mem_cons_self, ht x List.mem_cons_self acc _ (by omega) ?_⟩
    refine lc2T_map f g m L (acc ++ g x) S (fun k hk => hf k (List.mem_cons_of_mem _ hk)) (fun k hk => ht k (List.mem_cons_of_mem _ hk)) (by rw [List.length_append]; omega) ?_
    rw [List.append_assoc, ← List.flatMap_cons]
    exact q
theorem lcR_filL {α : Type} {v : Nat} {tt : TDT} {te : TD} {ρ : Rho} {Q : List D → Store → Prop} (f g : α → D) (p : α → Bool) : ∀ (L : List α) (acc : List D) (S : Store), (∀ k ∈ L, ∀ Q' : Bool → Store → Prop, Q' (p k) S → tt (ρ.set v (some (f k))) S Q') → (∀ k ∈ L, ∀ Q' : D → Store → Prop, Q' (g k) S → te (ρ.set v (some (f k))) S Q') →
    ∀ m : Nat, acc.length + ((L.filter p).map g).length ≤ 1000 → Q (acc ++ (L.filter p).map g) S → lcR v tt te ρ (L.map f) acc S Q
  | [], acc, S, _, _, _, _, q => by
    rw [List.filter_nil, List.map_nil, List.append_nil] at q
    exact q
  | k :: L, acc, S, hp, ht, m, hl, q => by
    rw [List.map_cons]
    unfold lcR
    refine hp k List.mem_cons_self _ ?_
    cases e : p k with
    | true =>
      rw [List.filter_cons_of_pos e] at q hl
      rw [List.map_cons, List.length_cons] at hl
      refine iteT (ht k List.mem_cons_self _ ⟨Nat.lt_of_lt_of_le (show acc.length < 100001 by omega) (sz5 (by omega)), ?_⟩)
      refine lcR_filL f g p L (acc ++ [g k]) S (fun k hk => hp k (List.mem_cons_of_mem _ hk)) (fun k hk => ht k (List.mem_cons_of_mem _ hk)) m (by rw [List.length_append]; show acc.length + 1 + _ ≤ _; omega) ?_
      rw [List.append_assoc]
      exact q
    | false =>
      rw [List.filter_cons_of_neg (by rw [e]; simp)] at q hl
      refine iteF (lcR_filL f g p L acc S (fun k hk => hp k (List.mem_cons_of_mem _ hk)) (fun k hk => ht k (List.mem_cons_of_mem _ hk)) m hl q)
def m_is_name : M := fun ds S Q E => ∃ p : Part, ds = [partD p] ∧ Q (.bl p.1) S
theorem d_is_name (Z : Zf P w K mg base) : Ca P w K mg base 1 "is_name" ["part"] m_is_name := by
  obtain ⟨fd, F, hb⟩ := Z.F_is_name
  refine ⟨_, fd, df_of (k := 0) F sc_is_name (fun cdv A outer s H E F0 E' B => (dss_one (ds_ret (de_cmp (od_eq B.units) (de_ix (dv 0) de_int) de_str rfl)))) ?_, Z.g_is_name, F.kp, hb⟩
  rintro ds S Q E hl ⟨p, rfl, hq⟩
  rw [show startD N_is_name [partD p] = [some (partD p)] from rfl]
  unfold partD
  walk_at "nd"
  rw [kind_any]
  exact fini hq
def Atom.names (a : Atom) : List Tx := (a.ps.filter (·.1)).map (·.2)
def namesOf (as : List Atom) : List Tx := as.flatMap Atom.names
def m_names_in : M := fun ds S Q E => ∃ as : List Atom, ds = [.lst (as.map Atom.d)] ∧ (namesOf as).length ≤ 1000 ∧ ∀ ys : List Tx, ys.Nodup → (∀ y, y ∈ ys ↔ y ∈ namesOf as) → Q (.lst (ys.map D.str)) S
theorem d_names_in (Z : Zf P w K mg base) : Ca P w K mg base 2 "names_in" ["atoms"] m_names_in := by
  obtain ⟨fd, F, hb⟩ := Z.F_names_in
  refine ⟨_, fd, df_of (k := 1) F sc_names_in (fun cdv A outer s H E F0 E' B => (dss_one (ds_ret (de_sortSet (hu65 B.room) rfl rfl Z.f_sorted rfl Z.f_set (de_lc2T [1, 2] 3 rfl rfl nd_names_in (di_lst (dv 0)) (blkOk_by (own := [("_", 1), ("parts", 2), ("part", 3)]) (N := N_names_in) (sc := defScope st_names_in) (by decide +kernel)) (fun _ _ _ _ _ => pg_tup rfl (pgs_cons (pg_name (i := 1) nd_names_in rfl (Or.inl rfl)) (pgs_cons (pg_name (i := 2) nd_names_in rfl (Or.inl rfl)) pgs_nil))) (fun _ _ _ _ _ => (di_tup (dv 2))) (fun _ _ _ _ _ => pg_name (i := 3) nd_names_in rfl (Or.inl rfl)) (fun _ _ _ _ _ => (dts_one (dt_val (de_ca (d_is_name Z) (B.blk.mono (by omega)) rfl (da_cons (dv 3) da_nil))))) (fun _ _ _ _ _ => (de_ix (dv 3) de_int))))))) ?_, Z.g_names_in, F.kp, hb⟩
  rintro ds S Q E hl ⟨as, rfl, h1, hq⟩
  rw [show startD N_names_in [.lst (as.map Atom.d)] = [some (.lst (as.map Atom.d)), none, none, none] from rfl]
  walk_at "nd"
  show lc2T [1, 2] 3 _ _ _ _ (as.map fun a => .tup [.str a.w, .tup (a.ps.map partD)]) _ _ _
  have e0 : (as.flatMap fun a => a.names.map D.str) = (namesOf as).map D.str := by
    unfold namesOf
    rw [List.map_flatMap]
  refine lc2T_map (vs := [1, 2]) (fun a => [.str a.w, .tup (a.ps.map partD)]) (fun a => a.names.map D.str) 1000 as [] S (fun x hx => rfl) (fun a ha acc' Q' hl q => ?_) (by rw [e0, List.length_map]; simpa using h1) ?_
  · walk_at "nd"
    refine ⟨_, rfl, ?_⟩
    show lcR 3 _ _ [some (.lst (as.map Atom.d)), some (.str a.w), some (.tup (a.ps.map partD)), none] (a.ps.map partD) _ _ _
    refine lcR_filL partD (fun p => .str p.2) (·.1) a.ps acc' S (fun p hp Q'' q'' => ?_) (fun p hp Q'' q'' => ?_) 1000 ?_ ?_
    · walk_at "nd"
      exact ⟨p, rfl, p.1, rfl, q''⟩
    · show tdOp gIx (tdV 3) (tdC (D.int 1)) [some (.lst (as.map Atom.d)), some (.str a.w), some (.tup (a.ps.map partD)), some (partD p)] S Q''
      unfold partD
      walk_at "nd"
    · rw [show (a.ps.filter (·.1)).map (fun p => D.str p.2) = a.names.map D.str by unfold Atom.names; rw [List.map_map]; rfl]
      exact hl
    · rw [show (a.ps.filter (·.1)).map (fun p => D.str p.2) = a.names.map D.str by unfold Atom.names; rw [List.map_map]; rfl]
      exact q
  · rw [e0, List.nil_append]
    exact ⟨namesOf as, rfl, by omega, fun ys n1 n2 _ => fini (hq ys n1 n2)⟩
end K07
namespace K07
open PySem PySem.Spec L2 DL
local macro_rules | `(tactic| walk_at "nd") => `(tactic| simp only [icO, isN0, gStr, tdiE, tdiZT, gSortND, gSortL, gSortDX, tdListVals, tdSortItems, tdiVals, gDictC, tdLck, tdSetd, tdExt, gIntT, tdTruT, tdRaise0, gTupP, tdPt, gDictT, tdLc2T, tdLcN, gLenN, tdValsI, tdSortSet, gCatB, gEq_bb, tdLcB, tdDNew, tdNNew, tdNGet, tdNPut, tdFGet, tdiF, tdDctF, tdDc, tdDcN, tdTru, tdDAugG, tdDictZ, tdCallV, tdLc2, ln_4, ln_5, ln_6, fmod_2, fdiv_2, gAddT, tdIdx, gdUnl, tdiD, gSortI, gMin2, gMax2, gTuple, gDictP, tdLcT, lcT, setD, unsetD, tdKGet, tdKGet2, tdGet2, tdPop, tdSeq, tdAsg, tdV, gdName, tdAnd, tdOr, tdNot, tdB, tdOp, tdCB, tdCons, tdNil, tdC, tdAug, tdSl, tdP, tdRet, tdTup, tdIf, tdIfS, gOrd, gI0, gI, gLen, gIx, gAdd, gInt, vw, ixP, gSl, tdDrop, tdRetN, tdNext, gIn_sc, gIn_ts, gIn_ls, gIn_t2, gIn_l2, gIn_l4, tdApp, sl_0, sl_1, sl_2, sl_3, sl_4, sl_5, ff, tt', true_and, id,
  eqS, tdFor, tdiT, tdiL, tdiR, tdXp, gList, gEq_ns, tdJoin, gJoin, vwS, gMul, gMod, gDiv, gPow, gI, tdAugS, gdSub, gSet, ixN_2, ixN_3, atI_3, atI_4, gEq_ss, gEq_ii, tdDict, tdPairs, tdNeg, Option.isNone_none, Option.isNone_some, gIsi, tdGet, tdDPut, tdDAug, tdIsN, tdNotN, DO.dic.injEq, Option.isNone_none, Option.isNone_some, gIn_l2, gIn_t2, Option.getD_some, tdLc, gMax, tdNoP, forR, tdRaise, tdCall, tdNotV, tdAndV, tdOrV, tdBox, tdZ, gdTup, gdCons, gdNil, tdBreak, tdCont, tdYes, icast, icast1, icast2, icast3, tdLst, gIn_l4, icastL, icastE, icastZ, ln_0, ln_1, ln_2, ln_3,
  List.getElem?_cons_zero, List.getElem?_cons_succ, List.set_cons_zero, List.set_cons_succ, Option.some.injEq, exists_eq_left', exists_eq_left, D.bl.injEq, decide_eq_true_eq,
  tdFldC, tdMeth, tdMake, tdPutF, tdAugF, D.ref.injEq, DO.ins.injEq, and_assoc, DL.gSub, D.int.injEq, D.str.injEq, sup_same, eq_self, not_true_eq_false, not_false_eq_true, Bool.false_eq_true, Bool.not_eq_true, decide_not, atIn, atI_0, atI_1, atI_2, List.getElem?_map, Option.map_some, Option.map_none, decide_true, decide_false, Bool.not_true, Bool.not_false, if_true, if_false, lm_0, lm_1, lm_2, List.length_map, exists_and_left, *])
variable {P : Program} {w : World} {K : PySem.W.Frag} {mg : Str → Option Value} {base : Heap}
def fillP (k : Kn) (p : Part) : Tx := if p.1 then (k.lookup p.2).getD [] else p.2
def fillA (a : Atom) (k : Kn) : Fact := ⟨a.w, a.ps.map (fillP k)⟩
def Full (a : Atom) (k : Kn) : Prop := ∀ p ∈ a.ps, p.1 = true → ∃ v, k.lookup p.2 = some v
theorem kn_get : ∀ {k : Kn} {x v : Tx}, k.lookup x = some v → getF (k.map fun p => (Sum.inr p.1 : DK)) (k.map fun p => D.str p.2) (.inr x) = some (.str v)
  | [], x, v, h => by cases h
  | (y, u) :: k, x, v, h => by
    show (if (Sum.inr y : DK) = .inr x then some (D.str u) else getF (k.map fun p => (Sum.inr p.1 : DK)) (k.map fun p => D.str p.2) (.inr x)) = _
    by_cases e : y = x
    · subst e
      rw [List.lookup_cons_self] at h
      cases h
      rw [if_pos rfl]
    · have e2 : (x == y) = false := beq_eq_false_iff_ne.mpr fun z => e z.symm
      rw [List.lookup_cons, e2] at h
      rw [if_neg fun z => e (Sum.inr.inj z)]
      exact kn_get h
def m_filled : M := fun ds S Q E => ∃ (a : Atom) (k : Kn), ds = [a.d, knD k] ∧ Full a k ∧ a.ps.length ≤ 1000 ∧ Q (fillA a k).d S
theorem d_filled (Z : Zf P w K mg base) : Ca P w K mg base 2 "filled" ["atom", "known"] m_filled := by
  obtain ⟨fd, F, hb⟩ := Z.F_filled
  refine ⟨_, fd, df_of (k := 1) F sc_filled (fun cdv A outer s H E F0 E' B => (dss_cons (ds_asg (dv 0) (dg_tup (n := 2) rfl (dgs_cons (dg_name 2 nd_filled) (dgs_cons (dg_name 3 nd_filled) dgs_nil))))
    (dss_one (ds_ret (de_tup (da_cons (dv 2) (da_cons (de_cT oc_tuple rfl Z.f_tuple bb_tuple (da_cons (de_lc rfl nd_filled (di_tup (dv 3)) (blkOk_by (own := [("part", 4)]) (N := N_filled) (sc := defScope st_filled) (by decide +kernel)) (fun _ _ _ _ _ => pg_name (i := 4) nd_filled rfl (Or.inl rfl)) (fun _ _ _ _ _ => dts_nil) (fun _ _ _ _ _ => (de_if (dt_val (de_ca (d_is_name Z) (B.blk.mono (by omega)) rfl (da_cons (dv 4) da_nil))) (de_tup (da_cons de_str (da_cons (de_fget (hu65 B.blk.room) (dv 1) (de_ix (dv 4) de_int)) da_nil))) (dv 4)))) da_nil)) da_nil))))))) ?_, Z.g_filled, F.kp, hb⟩
  rintro ds S Q E hl ⟨a, k, rfl, h1, h2, hq⟩
  rw [show startD N_filled [a.d, knD k] = [some a.d, some (knD k), none, none, none] from rfl]
  unfold Atom.d
  walk_at "nd"
  refine ⟨_, rfl, rfl, _, _, rfl, _, _, rfl, rfl, ?_⟩
  show lcR 4 tdYes _ [some (D.tup [D.str a.w, D.tup (a.ps.map partD)]), some (knD k), some (.str a.w), some (.tup (a.ps.map partD)), none] (a.ps.map partD) [] S _
  refine lcR_map partD (fun p => partD (false, fillP k p)) a.ps [] S (fun p hp Q' q => ?_) (by simp; omega) ?_
  · show tdIf _ _ _ [some (D.tup [D.str a.w, D.tup (a.ps.map partD)]), some (knD k), some (.str a.w), some (.tup (a.ps.map partD)), some (partD p)] S Q'
    walk_at "nd"
    refine ⟨p, rfl, p.1, rfl, ?_⟩
    obtain ⟨b, x⟩ := p
    cases b with
    | false =>
      walk_at "nd"
      exact q
    | true =>
      obtain ⟨v, hv⟩ := h1 _ hp rfl
      have e : partD (false, fillP k (true, x)) = .tup [.str (tx "thing"), .str v] := by
        show D.tup [.str (tx "thing"), .str ((k.lookup x).getD [])] = _
        rw [hv]
        rfl
      rw [e] at q
      unfold partD
      walk_at "nd"
      exact ⟨_, _, rfl, .inr x, rfl, _, kn_get hv, q⟩
  · rw [List.nil_append]
    have e : D.tup [.str a.w, .tup (a.ps.map fun p => partD (false, fillP k p))] = (fillA a k).d := by
      unfold Fact.d Atom.d Fact.atom fillA
      dsimp only
      rw [List.map_map, List.map_map]
      rfl
    rw [e]
    exact fini hq
def matchP : List (Part × Tx) → Kn → Option Kn
  | [], k => some k
  | (p, t) :: r, k => if p.1 = true then (match k.lookup p.2 with
      | some v => if v = t then matchP r k else none
      | none => matchP r (k ++ [(p.2, t)])) else if p.2 = t then matchP r k else none
def matchA (a : Atom) (f : Fact) (k : Kn) : Option Kn := if a.w = f.w ∧ a.ps.length = f.ts.length then matchP (a.ps.zip f.ts) k else none
def oKn : Option Kn → D
  | none => .non
  | some k => knD k
def kd (k : Kn) : List (DK × D) := k.map fun p => (.inr p.1, .str p.2)
theorem kd_len (k : Kn) : (kd k).length = k.length := List.length_map _
theorem kd_zip : ∀ k : Kn, (k.map fun p => (Sum.inr p.1 : DK)).zip (k.map fun p => D.str p.2) = kd k
  | [] => rfl
  | p :: k => by
    show (Sum.inr p.1, D.str p.2) :: ((k.map fun p => (Sum.inr p.1 : DK)).zip (k.map fun p => D.str p.2)) = _
    rw [kd_zip k]
    rfl
theorem kd_d (k : Kn) : D.dct ((kd k).map (·.1)) ((kd k).map (·.2)) = knD k := by
  unfold kd knD
  rw [List.map_map, List.map_map]
  rfl
theorem kd_val : ∀ (k : Kn) (x : Tx), valD (kd k) (.inr x) = (k.lookup x).map D.str
  | [], x => rfl
  | (y, u) :: k, x => by
    show (if (Sum.inr y : DK) = .inr x then some (D.str u) else valD (kd k) (.inr x)) = _
    by_cases e : y = x
    · subst e
      rw [List.lookup_cons_self, if_pos rfl]
      rfl
    · have e2 : (x == y) = false := beq_eq_false_iff_ne.mpr fun z => e z.symm
      rw [List.lookup_cons, e2, if_neg fun z => e (Sum.inr.inj z)]
      exact kd_val k x
theorem kd_has : ∀ (k : Kn) (x : Tx), k.lookup x = none → hasD (kd k) (.inr x) = false
  | [], x, _ => rfl
  | (y, u) :: k, x, h => by
    show (if (Sum.inr y : DK) = .inr x then true else hasD (kd k) (.inr x)) = _
    by_cases e : y = x
    · subst e
      rw [List.lookup_cons_self] at h
      cases h
    · have e2 : (x == y) = false := beq_eq_false_iff_ne.mpr fun z => e z.symm
      rw [List.lookup_cons, e2] at h
      rw [if_neg fun z => e (Sum.inr.inj z)]
      exact kd_has k x h
theorem kd_put {k : Kn} {x : Tx} (t : Tx) (h : k.lookup x = none) : putD (kd k) (.inr x) (.str t) = kd (k ++ [(x, t)]) := by
  unfold putD
  rw [if_neg (by rw [kd_has k x h]; simp)]
  unfold kd
  rw [List.map_append]
  rfl
theorem zipP : ∀ (ps : List Part) (ts : List Tx), List.zipWith (fun x y => D.tup [x, y]) (ps.map partD) ((ts.map fun t => (false, t)).map partD) = (ps.zip ts).map fun q => .tup [partD q.1, partD (false, q.2)]
  | [], _ => rfl
  | _ :: _, [] => rfl
  | p :: ps, t :: ts => by
    show D.tup [partD p, partD (false, t)] :: List.zipWith (fun x y => D.tup [x, y]) (ps.map partD) ((ts.map fun t => (false, t)).map partD) = _
    rw [zipP ps ts]
    rfl
def m_matched : M := fun ds S Q E => ∃ (a : Atom) (f : Fact) (k : Kn), ds = [a.d, f.d, knD k] ∧ a.ps.length + k.length ≤ 1000 ∧ (∀ p ∈ a.ps, p.1 = true) ∧ ∀ S', Sub S S' → Q (oKn (matchA a f k)) S'
theorem d_matched (Z : Zf P w K mg base) : Ca P w K mg base 2 "matched" ["atom", "fact", "known"] m_matched := by
  obtain ⟨fd, F, hb⟩ := Z.F_matched
  refine ⟨_, fd, df_of (k := 1) F sc_matched (fun cdv A outer s H E F0 E' B => (dss_cons (ds_if (PW.pt (dw_or (dt_cmp (od_ne B.units) (de_ix (dv 0) de_int) (de_ix (dv 1) de_int) rfl) (dw_or1 (dt_cmp (od_ne B.units) (de_cB oc_len rfl Z.f_len bb_len (da_cons (de_ix (dv 0) de_int) da_nil)) (de_cB oc_len rfl Z.f_len bb_len (da_cons (de_ix (dv 1) de_int) da_nil)) rfl)))) (dss_one (ds_ret de_non)) dss_nil)
    (dss_cons (ds_set 3 nd_matched (de_cT oc_dictC rfl Z.f_dict bb_dict (da_cons (dv 2) da_nil)))
    (dss_cons (ds_for (passes_of rfl) rfl (di_zipT rfl Z.f_zip (da_cons (de_ix (dv 0) de_int) (da_cons (de_ix (dv 1) de_int) da_nil))) (dg_tup (n := 2) rfl (dgs_cons (dg_name 4 nd_matched) (dgs_cons (dg_name 5 nd_matched) dgs_nil))) (dss_one (ds_if (dt_val (de_ca (d_is_name Z) (B.mono (by omega)) rfl (da_cons (dv 4) da_nil))) (dss_one (ds_if (dt_cmp (od_ne B.units) (de_setd (dv 3) (de_ix (dv 4) de_int) (de_ix (dv 5) de_int)) (de_ix (dv 5) de_int) rfl) (dss_one (ds_ret de_non)) dss_nil)) (dss_one (ds_if (dt_cmp (od_ne B.units) (dv 4) (dv 5) rfl) (dss_one (ds_ret de_non)) dss_nil)))))
    (dss_one (ds_ret (de_lck (dv 3)))))))) ?_, Z.g_matched, F.kp, hb⟩
  rintro ds S Q E hl ⟨a, f, k, rfl, h1, h2, hq⟩
  rw [show startD N_matched [a.d, f.d, knD k] = [some a.d, some f.d, some (knD k), none, none, none] from rfl]
  refine seq_cut (fun ρ S1 => (a.w = f.w ∧ a.ps.length = f.ts.length) ∧ ρ = [some a.d, some f.d, some (knD k), none, none, none] ∧ S1 = S) (fun Rest hR => ?_) ?_
  · refine ifS_cut (!decide (a.w = f.w ∧ a.ps.length = f.ts.length)) (fun Q' q => ?_) (fun hb3 => ?_) (fun hb3 => ?_)
    · have e0 : f.atom.ps.length = f.ts.length := List.length_map _
      unfold Fact.d Atom.d
      walk_at "nd"
      rw [show f.atom.w = f.w from rfl]
      by_cases e1 : a.w = f.w
      · rw [decide_eq_true e1]
        by_cases e2 : a.ps.length = f.ts.length
        · rw [decide_eq_true (show a.w = f.w ∧ a.ps.length = f.ts.length from ⟨e1, e2⟩)] at q
          rw [if_neg (by simp), decide_eq_true e2]
          exact q
        · rw [decide_eq_false (show ¬ (a.w = f.w ∧ a.ps.length = f.ts.length) from fun z => e2 z.2)] at q
          rw [if_neg (by simp), decide_eq_false e2]
          exact q
      · rw [decide_eq_false e1]
        rw [decide_eq_false (show ¬ (a.w = f.w ∧ a.ps.length = f.ts.length) from fun z => e1 z.1)] at q
        exact q
    · rw [Bool.not_eq_true', decide_eq_false_iff_not] at hb3
      walk_at "nd"
      have e : matchA a f k = none := if_neg hb3
      rw [e] at hq
      exact fini (hq S (Sub.refl S))
    · rw [Bool.not_eq_false', decide_eq_true_eq] at hb3
      exact hR _ _ ⟨hb3, rfl, rfl⟩
  rintro ρ S1 ⟨hc, rfl, rfl⟩
  have hm : matchA a f k = matchP (a.ps.zip f.ts) k := if_pos hc
  rw [hm] at hq
  clear hm hl
  refine seq_cut (fun ρ S2 => ∃ p, S1 p = none ∧ ρ = [some a.d, some f.d, some (knD k), some (.ref p), none, none] ∧ S2 = sup S1 p (.dic (kd k))) (fun Rest hR => ?_) ?_
  · walk_at "nd"
    refine ⟨_, _, rfl, by rw [List.length_map, List.length_map], fun p hp => ?_⟩
    rw [kd_zip]
    exact hR _ _ ⟨p, hp, rfl, rfl⟩
  rintro ρ S2 ⟨p, hp, rfl, rfl⟩
  refine seq_cut (fun ρ S3 => ∃ k' x4 x5, matchP (a.ps.zip f.ts) k = some k' ∧ ρ = [some a.d, some f.d, some (knD k), some (.ref p), x4, x5] ∧ S3 = sup S1 p (.dic (kd k'))) (fun Rest hR => ?_) ?_
  · show tdFor _ _ _ { nx := Rest, rt := Fini Q } [some (.tup [.str a.w, .tup (a.ps.map partD)]), some (.tup [.str f.w, .tup ((f.ts.map fun t => (false, t)).map partD)]), some (knD k), some (.ref p), none, none] (sup S1 p (.dic (kd k)))
    clear hc
    walk_at "nd"
    refine ⟨_, _, rfl, ?_⟩
    rw [zipP]
    refine for_ind (fun ds ρ S' => ∃ (r : List (Part × Tx)) (k' : Kn) (x4 x5 : Option D), (∀ q ∈ r, q.1.1 = true) ∧ ds = r.map (fun q => .tup [partD q.1, partD (false, q.2)]) ∧ ρ = [some a.d, some f.d, some (knD k), some (.ref p), x4, x5] ∧ S' = sup S1 p (.dic (kd k')) ∧ matchP r k' = matchP (a.ps.zip f.ts) k ∧ k'.length + r.length ≤ 1000) ?_ ?_ _ _ _
      ⟨a.ps.zip f.ts, k, none, none, fun q hq => h2 _ (List.of_mem_zip hq).1, rfl, rfl, rfl, rfl, ?_⟩
    · rintro ρ S' ⟨r, k', x4, x5, e0, e1, rfl, rfl, e2, e3⟩
      cases r with
      | cons q r => cases e1
      | nil => exact hR _ _ ⟨k', x4, x5, e2.symm, rfl, rfl⟩
    · rintro d ds ρ S' W hW ⟨r, k', x4, x5, e0, e1, rfl, rfl, e2, e3⟩
      cases r with
      | nil => cases e1
      | cons q r =>
        obtain ⟨⟨b, x⟩, t⟩ := q
        injection e1 with e1 e5
        subst e1 e5
        rw [List.length_cons] at e3
        have sub : Sub S1 (sup S1 p (.dic (kd k'))) := Sub.sup hp
        have hb' := e0 _ List.mem_cons_self
        have e0' : ∀ q ∈ r, q.1.1 = true := fun q hq => e0 q (List.mem_cons_of_mem _ hq)
        cases b with
        | false => cases hb'
        | true =>
          have e2' : (match k'.lookup x with | some v => if v = t then matchP r k' else none | none => matchP r (k' ++ [(x, t)])) = matchP (a.ps.zip f.ts) k := e2
          clear e2 e0 hR
          refine ⟨_, rfl, rfl, _, _, rfl, _, _, rfl, rfl, ?_⟩
          show tdIfS _ _ _ _ [some a.d, some f.d, some (knD k), some (.ref p), some (partD (true, x)), some (partD (false, t))] (sup S1 p (.dic (kd k')))
          refine ifS_cut true (fun Q' q => ?_) (fun _ => ?_) (fun z => by cases z)
          · walk_at "nd"
            exact ⟨(true, x), rfl, true, rfl, q⟩
          · cases hx : k'.lookup x with
            | some v =>
              rw [hx] at e2'
              have e4 : (if v = t then matchP r k' else none) = matchP (a.ps.zip f.ts) k := e2'
              clear e2'
              refine ifS_cut (!decide (v = t)) (fun Q' q => ?_) (fun hb3 => ?_) (fun hb3 => ?_)
              · unfold partD
                walk_at "nd"
                refine ⟨.inr x, rfl, ?_, fun v' hv => ?_, fun hn => ?_⟩
                · rw [kd_len]
                  exact Nat.lt_of_lt_of_le (show k'.length < 1001 by omega) (sz5 (by decide))
                · rw [kd_val, hx] at hv
                  cases hv
                  exact ⟨_, rfl, q⟩
                · rw [kd_val, hx] at hn
                  cases hn
              · rw [Bool.not_eq_true', decide_eq_false_iff_not] at hb3
                rw [if_neg hb3] at e4
                walk_at "nd"
                rw [← e4] at hq
                exact fini (hq _ sub)
              · rw [Bool.not_eq_false', decide_eq_true_eq] at hb3
                rw [if_pos hb3] at e4
                exact hW _ _ ⟨r, k', _, _, e0', rfl, rfl, rfl, e4, by omega⟩
            | none =>
              rw [hx] at e2'
              have e4 : matchP r (k' ++ [(x, t)]) = matchP (a.ps.zip f.ts) k := e2'
              clear e2'
              have hW2 := hW _ _ ⟨r, k' ++ [(x, t)], some (partD (true, x)), some (partD (false, t)), e0', rfl, rfl, rfl, e4, by rw [List.length_append]; show k'.length + 1 + _ ≤ _; omega⟩
              unfold partD at hW2 ⊢
              clear hW hq
              walk_at "nd"
              refine ⟨.inr x, rfl, ?_, fun v' hv => ?_, fun hn => ?_⟩
              · rw [kd_len]
                exact Nat.lt_of_lt_of_le (show k'.length < 1001 by omega) (sz5 (by decide))
              · rw [kd_val, hx] at hv
                cases hv
              · rw [kd_put t hx, sup_sup]
                exact hW2
    · rw [List.length_zip]
      omega
  rintro ρ S3 ⟨k', x4, x5, h3, rfl, rfl⟩
  rw [h3] at hq
  walk_at "nd"
  rw [kd_d, sdel_sup hp]
  exact fini (hq S1 (Sub.refl S1))
end K07
namespace K07
open PySem PySem.Spec L2 DL
local macro_rules | `(tactic| walk_at "nd") => `(tactic| simp only [icO, isN0, gStr, tdiE, tdiZT, gSortND, gSortL, gSortDX, tdListVals, tdSortItems, tdiVals, gDictC, tdLck, tdSetd, tdExt, gIntT, tdTruT, tdRaise0, gTupP, tdPt, gDictT, tdLc2T, tdLcN, gLenN, tdValsI, tdSortSet, gCatB, gEq_bb, tdLcB, tdDNew, tdNNew, tdNGet, tdNPut, tdFGet, tdiF, tdDctF, tdDc, tdDcN, tdTru, tdDAugG, tdDictZ, tdCallV, tdLc2, ln_4, ln_5, ln_6, fmod_2, fdiv_2, gAddT, tdIdx, gdUnl, tdiD, gSortI, gMin2, gMax2, gTuple, gDictP, tdLcT, lcT, setD, unsetD, tdKGet, tdKGet2, tdGet2, tdPop, tdSeq, tdAsg, tdV, gdName, tdAnd, tdOr, tdNot, tdB, tdOp, tdCB, tdCons, tdNil, tdC, tdAug, tdSl, tdP, tdRet, tdTup, tdIf, tdIfS, gOrd, gI0, gI, gLen, gIx, gAdd, gInt, vw, ixP, gSl, tdDrop, tdRetN, tdNext, gIn_sc, gIn_ts, gIn_ls, gIn_t2, gIn_l2, gIn_l4, tdApp, sl_0, sl_1, sl_2, sl_3, sl_4, sl_5, ff, tt', true_and, id,
  eqS, tdFor, tdiT, tdiL, tdiR, tdXp, gList, gEq_ns, tdJoin, gJoin, vwS, gMul, gMod, gDiv, gPow, gI, tdAugS, gdSub, gSet, ixN_2, ixN_3, atI_3, atI_4, gEq_ss, gEq_ii, tdDict, tdPairs, tdNeg, Option.isNone_none, Option.isNone_some, gIsi, tdGet, tdDPut, tdDAug, tdIsN, tdNotN, DO.dic.injEq, Option.isNone_none, Option.isNone_some, gIn_l2, gIn_t2, Option.getD_some, tdLc, gMax, tdNoP, forR, tdRaise, tdCall, tdNotV, tdAndV, tdOrV, tdBox, tdZ, gdTup, gdCons, gdNil, tdBreak, tdCont, tdYes, icast, icast1, icast2, icast3, tdLst, gIn_l4, icastL, icastE, icastZ, ln_0, ln_1, ln_2, ln_3,
  List.getElem?_cons_zero, List.getElem?_cons_succ, List.set_cons_zero, List.set_cons_succ, Option.some.injEq, exists_eq_left', exists_eq_left, D.bl.injEq, decide_eq_true_eq,
  tdFldC, tdMeth, tdMake, tdPutF, tdAugF, D.ref.injEq, DO.ins.injEq, and_assoc, DL.gSub, D.int.injEq, D.str.injEq, sup_same, eq_self, not_true_eq_false, not_false_eq_true, Bool.false_eq_true, Bool.not_eq_true, decide_not, atIn, atI_0, atI_1, atI_2, List.getElem?_map, Option.map_some, Option.map_none, decide_true, decide_false, Bool.not_true, Bool.not_false, if_true, if_false, lm_0, lm_1, lm_2, List.length_map, exists_and_left, *])
variable {P : Program} {w : World} {K : PySem.W.Frag} {mg : Str → Option Value} {base : Heap}
def numT (n : Nat) : Tx := tx (toString ((n : Nat) : Int))
def nameG (p s : Nat) : Tx := tx "g" ++ numT p ++ tx "." ++ numT s
def nameN (p : Nat) : Tx := tx "n" ++ numT p
def factR (x : Tx) (a b : Nat) : Rule := ⟨⟨x, [(false, numT a), (false, numT b)]⟩, []⟩
def gateL (start : Nat) : Nat → List (Nat × Nat) → Rules
  | _, [] => []
  | k, p :: r => (nameG k 0, factR (tx "feeds") (p.1 / 2) (start + k)) :: (nameG k 1, factR (tx "feeds") (p.2 / 2) (start + k)) :: gateL start (k + 1) r
def nextL (ni : Nat) : Nat → List Nat → Rules
  | _, [] => []
  | k, l :: r => (nameN k, factR (tx "next") (l / 2) (1 + ni + k)) :: nextL ni (k + 1) r
def vX : Part := (true, tx "X")
def vY : Part := (true, tx "Y")
def vZ : Part := (true, tx "Z")
def rOwn : Rule := ⟨⟨tx "leads", [vX, vY]⟩, [⟨tx "feeds", [vX, vY]⟩]⟩
def rMore : Rule := ⟨⟨tx "leads", [vX, vZ]⟩, [⟨tx "feeds", [vX, vY]⟩, ⟨tx "leads", [vY, vZ]⟩]⟩
def rLate : Rule := ⟨⟨tx "turns", [vX, vZ]⟩, [⟨tx "leads", [vX, vY]⟩, ⟨tx "next", [vY, vZ]⟩]⟩
def lawL : Rules := [(tx "own", rOwn), (tx "more", rMore), (tx "late", rLate)]
def v3 (x : Tx) : D := .tup [.str (tx "any"), .str x]
theorem own_d : D.tup [.tup [.str (tx "leads"), .tup [v3 (tx "X"), v3 (tx "Y")]], .tup [.tup [.bl true, .tup [.str (tx "feeds"), .tup [v3 (tx "X"), v3 (tx "Y")]]]]] = rOwn.d := rfl
theorem more_d : D.tup [.tup [.str (tx "leads"), .tup [v3 (tx "X"), v3 (tx "Z")]], .tup [.tup [.bl true, .tup [.str (tx "feeds"), .tup [v3 (tx "X"), v3 (tx "Y")]]], .tup [.bl true, .tup [.str (tx "leads"), .tup [v3 (tx "Y"), v3 (tx "Z")]]]]] = rMore.d := rfl
theorem late_d : D.tup [.tup [.str (tx "turns"), .tup [v3 (tx "X"), v3 (tx "Z")]], .tup [.tup [.bl true, .tup [.str (tx "leads"), .tup [v3 (tx "X"), v3 (tx "Y")]]], .tup [.bl true, .tup [.str (tx "next"), .tup [v3 (tx "Y"), v3 (tx "Z")]]]]] = rLate.d := rfl
def netL (n : Net) : Rules := gateL n.start 0 n.gs ++ nextL n.ni 0 n.ns ++ lawL
def rd (L : Rules) : List (DK × D) := L.map fun p => (.inr p.1, p.2.d)
def rdM (L : Rules) : List (DK × D) := mergeD [] (rd L)
theorem rdM_snoc (L : Rules) (k : Tx) (r : Rule) : putD (rdM L) (.inr k) r.d = rdM (L ++ [(k, r)]) := by
  unfold rdM rd mergeD
  rw [List.map_append, List.foldl_append]
  rfl
theorem gateL_len (st : Nat) : ∀ (k : Nat) (g : List (Nat × Nat)), (gateL st k g).length = 2 * g.length
  | _, [] => rfl
  | k, p :: r => by
    show (gateL st (k + 1) r).length + 1 + 1 = 2 * (r.length + 1)
    rw [gateL_len st (k + 1) r]
    omega
theorem gateL_app (st : Nat) : ∀ (k : Nat) (g r : List (Nat × Nat)), gateL st k (g ++ r) = gateL st k g ++ gateL st (k + g.length) r
  | k, [], r => rfl
  | k, p :: g, r => by
    show _ :: _ :: gateL st (k + 1) (g ++ r) = _ :: _ :: (gateL st (k + 1) g ++ _)
    rw [gateL_app st (k + 1) g r, List.length_cons, show k + 1 + g.length = k + (g.length + 1) by omega]
theorem nextL_app (ni : Nat) : ∀ (k : Nat) (g r : List Nat), nextL ni k (g ++ r) = nextL ni k g ++ nextL ni (k + g.length) r
  | k, [], r => rfl
  | k, p :: g, r => by
    show _ :: nextL ni (k + 1) (g ++ r) = _ :: (nextL ni (k + 1) g ++ _)
    rw [nextL_app ni (k + 1) g r, List.length_cons, show k + 1 + g.length = k + (g.length + 1) by omega]
theorem nextL_len (ni : Nat) : ∀ (k : Nat) (g : List Nat), (nextL ni k g).length = g.length
  | _, [] => rfl
  | k, p :: r => by
    show (nextL ni (k + 1) r).length + 1 = r.length + 1
    rw [nextL_len ni (k + 1) r]
theorem merge_le : ∀ (L acc : List (DK × D)), (mergeD acc L).length ≤ acc.length + L.length
  | [], acc => Nat.le_refl _
  | p :: L, acc => by
    show (mergeD (putD acc p.1 p.2) L).length ≤ _
    have h1 := merge_le L (putD acc p.1 p.2)
    have h2 := put_len acc p.1 p.2
    rw [List.length_cons]
    omega
theorem factR_d (x : Tx) (a b : Nat) : (factR x a b).d = D.tup [D.tup [D.str x, D.tup [D.tup [D.str (tx "thing"), D.str (tx (toString ((a : Nat) : Int)))], D.tup [D.str (tx "thing"), D.str (tx (toString ((b : Nat) : Int)))]]], D.tup []] := rfl
theorem rdM_len (L : Rules) : (rdM L).length ≤ L.length := by
  have := merge_le (rd L) []
  unfold rdM
  rw [show (rd L).length = L.length from List.length_map _] at this
  simpa using this
theorem lgN {m : Nat} (h : m ≤ 1000) : ((m : Nat) : Int).natAbs.log2 < 1920 := by
  show m.log2 < 1920
  rcases Nat.eq_zero_or_pos m with e | e
  · subst e; decide
  · refine (Nat.log2_lt (by omega)).mpr ?_
    exact Nat.lt_of_lt_of_le (show m < 2 ^ 10 by omega) (Nat.pow_le_pow_right (by decide) (by decide))
theorem merge_nodup : ∀ (L acc : List (DK × D)), ((acc ++ L).map (·.1)).Nodup → mergeD acc L = acc ++ L
  | [], acc, _ => by rw [List.append_nil]; rfl
  | p :: L, acc, h => by
    have hn : hasD acc p.1 = false := by
      have h2 : p.1 ∉ acc.map (·.1) := fun hm => by
        rw [List.map_append, List.nodup_append] at h
        exact h.2.2 _ hm _ (List.mem_map_of_mem List.mem_cons_self) rfl
      clear h
      induction acc with
      | nil => rfl
      | cons q acc ih =>
        show (if q.1 = p.1 then true else hasD acc p.1) = false
        rw [if_neg (fun z => h2 (by rw [← z]; exact List.mem_cons_self))]
        exact ih fun hm => h2 (List.mem_cons_of_mem _ hm)
    have e : putD acc p.1 p.2 = acc ++ [p] := by
      unfold putD
      rw [if_neg (by rw [hn]; simp)]
    show mergeD (putD acc p.1 p.2) L = _
    rw [e, merge_nodup L (acc ++ [p]) (by rw [List.append_assoc]; exact h), List.append_assoc]
    rfl
theorem rdM_nodup {L : Rules} (h : (L.map (·.1)).Nodup) : rdM L = rd L := by
  unfold rdM
  rw [merge_nodup (rd L) [] ?_]
  · rfl
  · rw [List.nil_append]
    unfold rd
    rw [List.map_map]
    have e : L.map ((fun x : DK × D => x.1) ∘ fun p => (Sum.inr p.1, p.2.d)) = (L.map (·.1)).map Sum.inr := by rw [List.map_map]; rfl
    rw [e]
    exact List.pairwise_map.mpr (h.imp fun ne z => ne (Sum.inr.inj z))
def allN : List Tx := (List.range 40).flatMap (fun p => [nameG p 0, nameG p 1]) ++ ((List.range 4).map nameN ++ [tx "own", tx "more", tx "late"])
theorem allN_nodup : allN.Nodup := by decide +kernel
theorem sub_flat {α β : Type} (f : α → List β) {l m : List α} (h : l.Sublist m) : (l.flatMap f).Sublist (m.flatMap f) := by
  induction h with
  | slnil => exact List.Sublist.refl _
  | cons a h ih => rw [List.flatMap_cons]; exact ih.trans (List.sublist_append_right _ _)
  | cons_cons a h ih => rw [List.flatMap_cons, List.flatMap_cons]; exact (List.Sublist.refl _).append ih
theorem gateL_names (st : Nat) : ∀ (k : Nat) (g : List (Nat × Nat)), (gateL st k g).map (·.1) = (List.range' k g.length).flatMap fun p => [nameG p 0, nameG p 1]
  | k, [] => rfl
  | k, p :: g => by
    show nameG k 0 :: nameG k 1 :: (gateL st (k + 1) g).map (·.1) = _
    rw [gateL_names st (k + 1) g, List.length_cons, List.range'_succ, List.flatMap_cons]
    rfl
theorem nextL_names (ni : Nat) : ∀ (k : Nat) (g : List Nat), (nextL ni k g).map (·.1) = (List.range' k g.length).map nameN
  | k, [] => rfl
  | k, p :: g => by
    show nameN k :: (nextL ni (k + 1) g).map (·.1) = _
    rw [nextL_names ni (k + 1) g, List.length_cons, List.range'_succ, List.map_cons]
theorem netL_nodup {n : Net} (hn : n.ok) : ((netL n).map (·.1)).Nodup := by
  refine List.Sublist.nodup ?_ allN_nodup
  unfold netL allN
  rw [List.map_append, List.map_append, gateL_names, nextL_names, List.append_assoc]
  refine (sub_flat _ ?_).append (List.Sublist.append (List.Sublist.map _ ?_) (List.Sublist.refl _))
  · rw [← List.range_eq_range', List.range_sublist]; exact hn.g1
  · rw [← List.range_eq_range', List.range_sublist]; have := hn.n1; have := hn.f2; omega
def m_net_rules : M := fun ds S Q E => ∃ n : Net, ds = [n.d] ∧ n.ok ∧ ∀ S', Sub S S' → Q (rulesD (netL n)) S'
theorem d_net_rules (Z : Zf P w K mg base) : Ca P w K mg base 1 "net_rules" ["net"] m_net_rules := by
  obtain ⟨fd, F, hb⟩ := Z.F_net_rules
  refine ⟨_, fd, df_of (k := 0) F sc_net_rules (fun cdv A outer s H E F0 E' B => (dss_cons (ds_set 1 nd_net_rules de_dnew)
    (dss_cons (ds_set 2 nd_net_rules (de_op od_addT (de_op od_addT de_int (de_cB oc_len rfl Z.f_len bb_len (da_cons (de_ix (dv 0) de_int) da_nil))) (de_cB oc_len rfl Z.f_len bb_len (da_cons (de_ix (dv 0) de_int) da_nil))))
    (dss_cons (ds_for (passes_of rfl) rfl (di_en rfl Z.f_enumerate (da_cons (de_ix (dv 0) de_int) da_nil)) (dg_tup (n := 2) rfl (dgs_cons (dg_name 3 nd_net_rules) (dgs_cons (dg_name 4 nd_net_rules) dgs_nil))) (dss_one (ds_for (passes_of rfl) rfl (di_en rfl Z.f_enumerate (da_cons (dv 4) da_nil)) (dg_tup (n := 2) rfl (dgs_cons (dg_name 5 nd_net_rules) (dgs_cons (dg_name 6 nd_net_rules) dgs_nil))) (dss_cons (ds_set 7 nd_net_rules (de_tup (da_cons de_str (da_cons (de_tup (da_cons (de_tup (da_cons de_str (da_cons (de_cT oc_str rfl Z.f_str bb_str (da_cons (de_op od_div (dv 6) de_int) da_nil)) da_nil))) (da_cons (de_tup (da_cons de_str (da_cons (de_cT oc_str rfl Z.f_str bb_str (da_cons (de_op od_addT (dv 2) (dv 3)) da_nil)) da_nil))) da_nil))) da_nil))))
    (dss_one (ds_dput B.units1 (dv 1) (de_op od_addT (de_op od_addT (de_op od_addT de_str (de_cT oc_str rfl Z.f_str bb_str (da_cons (dv 3) da_nil))) de_str) (de_cT oc_str rfl Z.f_str bb_str (da_cons (dv 5) da_nil))) (de_tup (da_cons (dv 7) (da_cons (de_tup da_nil) da_nil)))))))))
    (dss_cons (ds_for (passes_of rfl) rfl (di_en rfl Z.f_enumerate (da_cons (de_ix (dv 0) de_int) da_nil)) (dg_tup (n := 2) rfl (dgs_cons (dg_name 3 nd_net_rules) (dgs_cons (dg_name 6 nd_net_rules) dgs_nil))) (dss_cons (ds_set 7 nd_net_rules (de_tup (da_cons de_str (da_cons (de_tup (da_cons (de_tup (da_cons de_str (da_cons (de_cT oc_str rfl Z.f_str bb_str (da_cons (de_op od_div (dv 6) de_int) da_nil)) da_nil))) (da_cons (de_tup (da_cons de_str (da_cons (de_cT oc_str rfl Z.f_str bb_str (da_cons (de_op od_addT (de_op od_addT de_int (de_cB oc_len rfl Z.f_len bb_len (da_cons (de_ix (dv 0) de_int) da_nil))) (dv 3)) da_nil)) da_nil))) da_nil))) da_nil))))
    (dss_one (ds_dput B.units1 (dv 1) (de_op od_addT de_str (de_cT oc_str rfl Z.f_str bb_str (da_cons (dv 3) da_nil))) (de_tup (da_cons (dv 7) (da_cons (de_tup da_nil) da_nil)))))))
    (dss_cons (ds_asg (de_tup (da_cons (de_tup (da_cons de_str (da_cons de_str da_nil))) (da_cons (de_tup (da_cons de_str (da_cons de_str da_nil))) (da_cons (de_tup (da_cons de_str (da_cons de_str da_nil))) da_nil)))) (dg_tup (n := 3) rfl (dgs_cons (dg_name 8 nd_net_rules) (dgs_cons (dg_name 9 nd_net_rules) (dgs_cons (dg_name 10 nd_net_rules) dgs_nil)))))
    (dss_cons (ds_dput B.units1 (dv 1) de_str (de_tup (da_cons (de_tup (da_cons de_str (da_cons (de_tup (da_cons (dv 8) (da_cons (dv 9) da_nil))) da_nil))) (da_cons (de_tup (da_cons (de_tup (da_cons de_bl (da_cons (de_tup (da_cons de_str (da_cons (de_tup (da_cons (dv 8) (da_cons (dv 9) da_nil))) da_nil))) da_nil))) da_nil)) da_nil))))
    (dss_cons (ds_dput B.units1 (dv 1) de_str (de_tup (da_cons (de_tup (da_cons de_str (da_cons (de_tup (da_cons (dv 8) (da_cons (dv 10) da_nil))) da_nil))) (da_cons (de_tup (da_cons (de_tup (da_cons de_bl (da_cons (de_tup (da_cons de_str (da_cons (de_tup (da_cons (dv 8) (da_cons (dv 9) da_nil))) da_nil))) da_nil))) (da_cons (de_tup (da_cons de_bl (da_cons (de_tup (da_cons de_str (da_cons (de_tup (da_cons (dv 9) (da_cons (dv 10) da_nil))) da_nil))) da_nil))) da_nil))) da_nil))))
    (dss_cons (ds_dput B.units1 (dv 1) de_str (de_tup (da_cons (de_tup (da_cons de_str (da_cons (de_tup (da_cons (dv 8) (da_cons (dv 10) da_nil))) da_nil))) (da_cons (de_tup (da_cons (de_tup (da_cons de_bl (da_cons (de_tup (da_cons de_str (da_cons (de_tup (da_cons (dv 8) (da_cons (dv 9) da_nil))) da_nil))) da_nil))) (da_cons (de_tup (da_cons de_bl (da_cons (de_tup (da_cons de_str (da_cons (de_tup (da_cons (dv 9) (da_cons (dv 10) da_nil))) da_nil))) da_nil))) da_nil))) da_nil))))
    (dss_one (ds_ret (de_lck (dv 1))))))))))))) ?_, Z.g_net_rules, F.kp, hb⟩
  rintro ds S Q E hl ⟨n, rfl, hn, hq⟩
  rw [show startD N_net_rules [n.d] = [some n.d, none, none, none, none, none, none, none, none, none, none] from rfl]
  clear hl
  rw [Net.d_eq]
  have hni : n.ins.length = n.ni := by unfold Net.ins; rw [List.length_take]; have := hn.i2; show min n.ni 9 = _; omega
  have hfs : n.rgD.length = n.fs.length := by unfold Net.rgD; rw [List.length_map, List.length_zip]; have := hn.f2; show min 4 _ = _; omega
  generalize hc0 : D.tup (n.ins.map D.str) = c0
  generalize hc1 : D.tup n.rgD = c1
  generalize D.tup n.ouD = c3
  refine seq_cut (fun ρ S1 => ∃ p, S p = none ∧ ρ = [some (.tup [c0, c1, .tup (n.gs.map DL.prD), c3, .tup (n.ns.map nat)]), some (.ref p), none, none, none, none, none, none, none, none, none] ∧ S1 = sup S p (.dic (rdM []))) (fun Rest hR => ?_) ?_
  · walk_at "nd"
    exact fun p hp => hR _ _ ⟨p, hp, rfl, rfl⟩
  rintro ρ S1 ⟨p, hp, rfl, rfl⟩
  refine seq_cut (fun ρ S1 => ρ = [some (.tup [c0, c1, .tup (n.gs.map DL.prD), c3, .tup (n.ns.map nat)]), some (.ref p), some (nat n.start), none, none, none, none, none, none, none, none] ∧ S1 = sup S p (.dic (rdM []))) (fun Rest hR => ?_) ?_
  · subst hc0 hc1
    walk_at "nd"
    exact hR _ _ ⟨rfl, rfl⟩
  rintro ρ S1 ⟨rfl, rfl⟩
  clear hc1 hfs
  refine seq_cut (fun ρ S1 => ∃ x3 x4 x5 x6 x7, ρ = [some (.tup [c0, c1, .tup (n.gs.map DL.prD), c3, .tup (n.ns.map nat)]), some (.ref p), some (nat n.start), x3, x4, x5, x6, x7, none, none, none] ∧ S1 = sup S p (.dic (rdM (gateL n.start 0 n.gs)))) (fun Rest hR => ?_) ?_
  · clear hq
    walk_at "nd"
    refine ⟨_, rfl, ?_⟩
    refine for_ind (fun ds ρ S' => ∃ (g r : List (Nat × Nat)) (x3 x4 x5 x6 x7 : Option D), n.gs = g ++ r ∧ ds = enF g.length (r.map DL.prD) ∧ ρ = [some (.tup [c0, c1, .tup (n.gs.map DL.prD), c3, .tup (n.ns.map nat)]), some (.ref p), some (nat n.start), x3, x4, x5, x6, x7, none, none, none] ∧ S' = sup S p (.dic (rdM (gateL n.start 0 g)))) ?_ ?_ _ _ _
      ⟨[], n.gs, none, none, none, none, none, rfl, rfl, rfl, rfl⟩
    · rintro ρ S' ⟨g, r, x3, x4, x5, x6, x7, e0, e1, rfl, rfl⟩
      cases r with
      | cons q r => cases e1
      | nil =>
        rw [List.append_nil] at e0
        rw [← e0]
        exact hR _ _ ⟨x3, x4, x5, x6, x7, rfl, rfl⟩
    · rintro d ds ρ S' W hW ⟨g, r, x3, x4, x5, x6, x7, e0, e1, rfl, rfl⟩
      clear hR
      cases r with
      | nil => cases e1
      | cons q r =>
        obtain ⟨a, b⟩ := q
        have e1' : d :: ds = .tup [.int (g.length : Nat), DL.prD (a, b)] :: enF (g.length + 1) (r.map DL.prD) := e1
        injection e1' with e1 e5
        subst e1 e5
        have hgl : g.length + (r.length + 1) ≤ 40 := by have := hn.g1; rw [e0, List.length_append, List.length_cons] at this; exact this
        have hp1 := hn.g2 g.length (a, b) (by rw [e0, List.getElem?_append_right (Nat.le_refl _), Nat.sub_self]; rfl)
        have hst : n.start ≤ 9 := by have := hn.i2; have := hn.f2; have : n.start = 1 + n.ni + n.fs.length := rfl; omega
        have hL := gateL_len n.start 0 g
        have hW2 := hW _ _ ⟨g ++ [(a, b)], r, some (nat g.length), some (DL.prD (a, b)), some (nat 1), some (nat b), some (factR (tx "feeds") (b / 2) (n.start + g.length)).h.d, by rw [e0, List.append_assoc]; rfl, by rw [List.length_append]; rfl, rfl, rfl⟩
        rw [gateL_app, show 0 + g.length = g.length by omega] at hW2
        clear hW
        dsimp only at hp1
        refine ⟨_, rfl, rfl, _, _, rfl, _, _, rfl, rfl, ?_⟩
        show tdFor _ _ _ _ [some (.tup [c0, c1, .tup (n.gs.map DL.prD), c3, .tup (n.ns.map nat)]), some (.ref p), some (nat n.start), some (nat g.length), some (DL.prD (a, b)), x5, x6, x7, none, none, none] _
        clear e1
        generalize hgs : D.tup (n.gs.map DL.prD) = c2 at *
        unfold DL.prD
        walk_at "nd"
        refine ⟨_, rfl, ?_⟩
        show forR _ _ _ [.tup [.int (0 : Nat), nat a], .tup [.int (1 : Nat), nat b]] _ _
        walk_at "nd"
        have l1 := num_len g.length
        have l2 := num_len 0
        have l3 := num_len 1
        have g1 : (tx "g").length = 1 := rfl
        have g2 : (tx ".").length = 1 := rfl
        refine ⟨_, rfl, rfl, _, _, rfl, _, _, rfl, rfl, ?_⟩
        show CDivN (a : Int) 2 ∧ _
        rw [fdiv_2]
        have c2 : CDivN (b : Int) 2 := ⟨by decide, by decide⟩
        refine ⟨⟨by decide, by decide⟩, lgN (by omega), lgN (by omega), lgN (by omega), sz5 (by omega), sz5 (by rw [List.length_append]; omega), lgN (show 0 ≤ 1000 by omega), sz5 (by rw [List.length_append, List.length_append]; omega), .inr (nameG g.length 0), rfl, ?_⟩
        have k1 := rdM_len (gateL n.start 0 g)
        have k2 := rdM_len (gateL n.start 0 g ++ [(nameG g.length 0, factR (tx "feeds") (a / 2) (n.start + g.length))])
        rw [List.length_append] at k2
        have k3 : [(nameG g.length 0, factR (tx "feeds") (a / 2) (n.start + g.length))].length = 1 := rfl
        refine ⟨Nat.lt_of_lt_of_le (show _ < 1001 by omega) (sz5 (by decide)), _, rfl, rfl, _, _, rfl, _, _, rfl, rfl, c2, ?_⟩
        rw [fdiv_2, ← factR_d (tx "feeds") (a / 2), rdM_snoc]
        refine ⟨lgN (by omega), lgN (by omega), lgN (by omega), sz5 (by omega), sz5 (by rw [List.length_append]; omega), lgN (show 1 ≤ 1000 by omega), sz5 (by rw [List.length_append, List.length_append]; omega), .inr (nameG g.length 1), rfl, Nat.lt_of_lt_of_le (show _ < 1001 by omega) (sz5 (by decide)), ?_⟩
        rw [← factR_d (tx "feeds") (b / 2), rdM_snoc]
        rw [sup_sup, sup_sup, List.append_assoc]
        exact hW2
  rintro ρ S1 ⟨x3, x4, x5, x6, x7, rfl, rfl⟩
  refine seq_cut (fun ρ S1 => ∃ x3 x4 x5 x6 x7, ρ = [some (.tup [c0, c1, .tup (n.gs.map DL.prD), c3, .tup (n.ns.map nat)]), some (.ref p), some (nat n.start), x3, x4, x5, x6, x7, none, none, none] ∧ S1 = sup S p (.dic (rdM (gateL n.start 0 n.gs ++ nextL n.ni 0 n.ns)))) (fun Rest hR => ?_) ?_
  · clear hq
    walk_at "nd"
    refine ⟨_, rfl, ?_⟩
    have hst : n.ni ≤ 4 := hn.i2
    have hsz : n.size ≤ 60 := by have := hn.i2; have := hn.f2; have := hn.g1; have : n.start = 1 + n.ni + n.fs.length := rfl; have : n.size = n.start + n.gs.length := rfl; omega
    have hnl : n.ns.length ≤ 4 := by have := hn.n1; have := hn.f2; omega
    refine for_ind (fun ds ρ S' => ∃ (g r : List Nat) (x3 x4 x5 x6 x7 : Option D), n.ns = g ++ r ∧ ds = enF g.length (r.map nat) ∧ ρ = [some (.tup [c0, c1, .tup (n.gs.map DL.prD), c3, .tup (n.ns.map nat)]), some (.ref p), some (nat n.start), x3, x4, x5, x6, x7, none, none, none] ∧ S' = sup S p (.dic (rdM (gateL n.start 0 n.gs ++ nextL n.ni 0 g)))) ?_ ?_ _ _ _
      ⟨[], n.ns, x3, x4, x5, x6, x7, rfl, rfl, rfl, by rw [show nextL n.ni 0 [] = [] from rfl, List.append_nil]⟩
    · rintro ρ S' ⟨g, r, x3, x4, x5, x6, x7, e0, e1, rfl, rfl⟩
      cases r with
      | cons q r => cases e1
      | nil =>
        rw [List.append_nil] at e0
        rw [← e0]
        exact hR _ _ ⟨x3, x4, x5, x6, x7, rfl, rfl⟩
    · rintro d ds ρ S' W hW ⟨g, r, x3, x4, x5, x6, x7, e0, e1, rfl, rfl⟩
      clear hR
      cases r with
      | nil => cases e1
      | cons q r =>
        have e1' : d :: ds = .tup [.int (g.length : Nat), nat q] :: enF (g.length + 1) (r.map nat) := e1
        injection e1' with e1 e5
        subst e1 e5
        have hgl : g.length + (r.length + 1) ≤ 4 := by rw [e0, List.length_append, List.length_cons] at hnl; exact hnl
        have hp1 := hn.n2 q (by rw [e0]; simp)
        have hL := gateL_len n.start 0 n.gs
        have hL2 := nextL_len n.ni 0 g
        have hg40 := hn.g1
        have hW2 := hW _ _ ⟨g ++ [q], r, some (nat g.length), x4, x5, some (nat q), some (factR (tx "next") (q / 2) (1 + n.ni + g.length)).h.d, by rw [e0, List.append_assoc]; rfl, by rw [List.length_append]; rfl, rfl, rfl⟩
        rw [nextL_app, show 0 + g.length = g.length by omega] at hW2
        clear hW
        refine ⟨_, rfl, rfl, _, _, rfl, _, _, rfl, rfl, ?_⟩
        show tdSeq _ _ _ [some (.tup [c0, c1, .tup (n.gs.map DL.prD), c3, .tup (n.ns.map nat)]), some (.ref p), some (nat n.start), some (nat g.length), x4, x5, some (nat q), x7, none, none, none] _
        clear e1
        generalize hgs : D.tup (n.gs.map DL.prD) = c2 at *
        have hz1 : tdV = tdV := rfl
        have l1 := num_len g.length
        have g1 : (tx "n").length = 1 := rfl
        have k1 := rdM_len (gateL n.start 0 n.gs ++ nextL n.ni 0 g)
        rw [List.length_append] at k1
        have c2' : CDivN (q : Int) 2 := ⟨by decide, by decide⟩
        have hin := hni
        subst hc0
        clear hni e0
        walk_at "nd"
        refine ⟨lgN (by omega), lgN (by omega), lgN (by omega), sz5 (by omega), .inr (nameN g.length), rfl, Nat.lt_of_lt_of_le (show _ < 1001 by omega) (sz5 (by decide)), ?_⟩
        rw [← factR_d (tx "next") (q / 2), rdM_snoc, sup_sup, List.append_assoc]
        exact hW2
  rintro ρ S1 ⟨x3, x4, x5, x6, x7, rfl, rfl⟩
  have hLl : (gateL n.start 0 n.gs ++ nextL n.ni 0 n.ns).length ≤ 90 := by
    rw [List.length_append, gateL_len, nextL_len]
    have := hn.g1; have := hn.n1; have := hn.f2
    omega
  have hN : rdM (netL n) = rd (netL n) := rdM_nodup (netL_nodup hn)
  unfold netL at hN hq
  generalize gateL n.start 0 n.gs ++ nextL n.ni 0 n.ns = L at *
  have hw : ∀ M : Rules, M.length ≤ 100 → (rdM M).length < sizeLine := fun M h => by
    have := rdM_len M
    exact Nat.lt_of_lt_of_le (show _ < 101 by omega) (sz5 (by decide))
  walk_at "nd"
  refine ⟨_, rfl, rfl, _, _, rfl, _, _, rfl, _, _, rfl, rfl, .inr (tx "own"), rfl, hw L (by omega), .inr (tx "more"), rfl, ?_⟩
  rw [show D.tup [.str (tx "any"), .str (tx "X")] = v3 (tx "X") from rfl, show D.tup [.str (tx "any"), .str (tx "Y")] = v3 (tx "Y") from rfl, show D.tup [.str (tx "any"), .str (tx "Z")] = v3 (tx "Z") from rfl, own_d, more_d, late_d, rdM_snoc, rdM_snoc]
  refine ⟨hw _ (by rw [List.length_append]; show _ + 1 ≤ _; omega), .inr (tx "late"), rfl, hw _ (by rw [List.length_append, List.length_append]; show _ + 1 + 1 ≤ _; omega), ?_⟩
  rw [rdM_snoc, List.append_assoc, List.append_assoc, sup_sup, sup_sup, sup_sup]
  have hN' : rdM (L ++ ([(tx "own", rOwn)] ++ ([(tx "more", rMore)] ++ [(tx "late", rLate)]))) = rd (L ++ lawL) := hN
  rw [hN', sdel_sup hp]
  have e : D.dct ((rd (L ++ lawL)).map (·.1)) ((rd (L ++ lawL)).map (·.2)) = rulesD (L ++ lawL) := by
    unfold rd rulesD
    rw [List.map_map, List.map_map]
    rfl
  rw [e]
  exact fini (hq S (Sub.refl S))
end K07
namespace K07
open PySem PySem.Spec L2 DL
local macro_rules | `(tactic| walk_at "nd") => `(tactic| simp only [icO, isN0, gStr, tdiE, tdiZT, gSortND, gSortL, gSortDX, tdListVals, tdSortItems, tdiVals, gDictC, tdLck, tdSetd, tdExt, gIntT, tdTruT, tdRaise0, gTupP, tdPt, gDictT, tdLc2T, tdLcN, gLenN, tdValsI, tdSortSet, gCatB, gEq_bb, tdLcB, tdDNew, tdNNew, tdNGet, tdNPut, tdFGet, tdiF, tdDctF, tdDc, tdDcN, tdTru, tdDAugG, tdDictZ, tdCallV, tdLc2, ln_4, ln_5, ln_6, fmod_2, fdiv_2, gAddT, tdIdx, gdUnl, tdiD, gSortI, gMin2, gMax2, gTuple, gDictP, tdLcT, lcT, setD, unsetD, tdKGet, tdKGet2, tdGet2, tdPop, tdSeq, tdAsg, tdV, gdName, tdAnd, tdOr, tdNot, tdB, tdOp, tdCB, tdCons, tdNil, tdC, tdAug, tdSl, tdP, tdRet, tdTup, tdIf, tdIfS, gOrd, gI0, gI, gLen, gIx, gAdd, gInt, vw, ixP, gSl, tdDrop, tdRetN, tdNext, gIn_sc, gIn_ts, gIn_ls, gIn_t2, gIn_l2, gIn_l4, tdApp, sl_0, sl_1, sl_2, sl_3, sl_4, sl_5, ff, tt', true_and, id,
  eqS, tdFor, tdiT, tdiL, tdiR, tdXp, gList, gEq_ns, tdJoin, gJoin, vwS, gMul, gMod, gDiv, gPow, gI, tdAugS, gdSub, gSet, ixN_2, ixN_3, atI_3, atI_4, gEq_ss, gEq_ii, tdDict, tdPairs, tdNeg, Option.isNone_none, Option.isNone_some, gIsi, tdGet, tdDPut, tdDAug, tdIsN, tdNotN, DO.dic.injEq, Option.isNone_none, Option.isNone_some, gIn_l2, gIn_t2, Option.getD_some, tdLc, gMax, tdNoP, forR, tdRaise, tdCall, tdNotV, tdAndV, tdOrV, tdBox, tdZ, gdTup, gdCons, gdNil, tdBreak, tdCont, tdYes, icast, icast1, icast2, icast3, tdLst, gIn_l4, icastL, icastE, icastZ, ln_0, ln_1, ln_2, ln_3,
  List.getElem?_cons_zero, List.getElem?_cons_succ, List.set_cons_zero, List.set_cons_succ, Option.some.injEq, exists_eq_left', exists_eq_left, D.bl.injEq, decide_eq_true_eq,
  tdFldC, tdMeth, tdMake, tdPutF, tdAugF, D.ref.injEq, DO.ins.injEq, and_assoc, DL.gSub, D.int.injEq, D.str.injEq, sup_same, eq_self, not_true_eq_false, not_false_eq_true, Bool.false_eq_true, Bool.not_eq_true, decide_not, atIn, atI_0, atI_1, atI_2, List.getElem?_map, Option.map_some, Option.map_none, decide_true, decide_false, Bool.not_true, Bool.not_false, if_true, if_false, lm_0, lm_1, lm_2, List.length_map, exists_and_left, *])
variable {P : Program} {w : World} {K : PySem.W.Frag} {mg : Str → Option Value} {base : Heap}
def Rule.words (r : Rule) : List Tx := r.h.w :: r.b.map (·.w)
def wordsOf (rs : Rules) : List Tx := rs.flatMap fun p => p.2.words
structure Fits (rs : Rules) : Prop where
  n : rs.length ≤ 200
  w : (wordsOf rs).length ≤ 1000
  b : ∀ p ∈ rs, p.2.b.length ≤ 10 ∧ p.2.h.ps.length ≤ 10 ∧ ∀ a ∈ p.2.b, a.ps.length ≤ 10
  nd : (rs.map (·.1)).Nodup
  /-- the head's names are bound -/
  s : ∀ p ∈ rs, ∀ x ∈ p.2.h.names, x ∈ namesOf p.2.b
  /-- a body's parts are names -/
  a : ∀ p ∈ rs, ∀ a ∈ p.2.b, ∀ q ∈ a.ps, q.1 = true
def zeroD (ws : List Tx) : D := .dct (ws.map Sum.inr) (ws.map fun _ => .int 0)
theorem nd_len {α : Type} [DecidableEq α] : ∀ (l m : List α), l.Nodup → (∀ x ∈ l, x ∈ m) → l.length ≤ m.length
  | [], m, _, _ => Nat.zero_le _
  | a :: l, m, h, hs => by
    rw [List.nodup_cons] at h
    have h1 := nd_len l (m.erase a) h.2 fun x hx => (List.mem_erase_of_ne (fun z => h.1 (by rw [← z]; exact hx))).mpr (hs x (List.mem_cons_of_mem _ hx))
    have h2 := List.length_erase_of_mem (hs a List.mem_cons_self)
    have h3 := List.length_pos_of_mem (hs a List.mem_cons_self)
    rw [List.length_cons]
    omega
theorem dcR_map {α : Type} {v : Nat} {tk te : TD} {ρ : Rho} {Q : List (DK × D) → Store → Prop} (f : α → D) (k : α → DK) (g : α → D) : ∀ (L : List α) (acc : List (DK × D)) (S : Store), (∀ x ∈ L, ∀ Q' : D → Store → Prop, Q' (f x) S → tk (ρ.set v (some (f x))) S Q') →
    (∀ x ∈ L, ∀ Q' : D → Store → Prop, Q' (g x) S → te (ρ.set v (some (f x))) S Q') → (∀ x, f x = kD (k x)) → acc.length + L.length ≤ 100000 → Q (mergeD acc (L.map fun x => (k x, g x))) S → dcR v tdYes tk te ρ (L.map f) acc S Q
  | [], acc, S, _, _, _, _, q => q
  | x :: L, acc, S, h1, h2, h3, hl, q => by
    rw [List.length_cons] at hl
    rw [List.map_cons]
    unfold dcR
    show if true = true then (tk (ρ.set v (some (f x))) S fun y S2 => te (ρ.set v (some (f x))) S2 fun z S3 => ∃ k, y = kD k ∧ acc.length < sizeLine ∧ dcR v tdYes tk te ρ (L.map f) (putD acc k z) S3 Q) else dcR v tdYes tk te ρ (L.map f) acc S Q
    refine iteT (h1 x List.mem_cons_self _ (h2 x List.mem_cons_self _ ⟨k x, h3 x, Nat.lt_of_lt_of_le (show acc.length < 100001 by omega) (sz5 (by omega)), ?_⟩))
    have := put_len acc (k x) (g x)
    exact dcR_map f k g L (putD acc (k x) (g x)) S (fun y hy => h1 y (List.mem_cons_of_mem _ hy)) (fun y hy => h2 y (List.mem_cons_of_mem _ hy)) h3 (by omega) q
def zk (ws : List Tx) : List (DK × D) := ws.map fun x => (Sum.inr x, .int 0)
theorem zk_merge {ws : List Tx} (h : ws.Nodup) : mergeD [] (ws.map fun x => ((Sum.inr x : DK), D.int 0)) = zk ws := by
  rw [merge_nodup _ [] ?_]
  · rfl
  · rw [List.nil_append, List.map_map]
    exact List.pairwise_map.mpr (h.imp fun ne z => ne (Sum.inr.inj z))
theorem zk_val : ∀ {ws : List Tx} {x : Tx}, x ∈ ws → valD (zk ws) (.inr x) = some (.int 0)
  | y :: ws, x, h => by
    show (if (Sum.inr y : DK) = .inr x then some (D.int 0) else valD (zk ws) (.inr x)) = _
    by_cases e : y = x
    · rw [if_pos (by rw [e])]
    · rw [if_neg fun z => e (Sum.inr.inj z)]
      rcases List.mem_cons.mp h with z | z
      · exact absurd z.symm e
      · exact zk_val z
def m_layers : M := fun ds S Q E => ∃ rs : Rules, ds = [rulesD rs] ∧ Fits rs ∧ ∀ (ws : List Tx) S', Sub S S' → ws.Nodup → (∀ y, y ∈ ws ↔ y ∈ wordsOf rs) → Q (zeroD ws) S'
theorem d_layers (Z : Zf P w K mg base) : Ca P w K mg base 1 "layers" ["rules"] m_layers := by
  obtain ⟨fd, F, hb⟩ := Z.F_layers
  refine ⟨_, fd, df_of (k := 0) F sc_layers (fun cdv A outer s H E F0 E' B => (dss_cons (ds_set 1 nd_layers (de_sortSet (hu65 B.room) rfl rfl Z.f_sorted rfl Z.f_set (de_lc2T [2, 3] 4 rfl rfl nd_layers (di_vals (dv 0)) (blkOk_by (own := [("head", 2), ("body", 3), ("atom", 4)]) (N := N_layers) (sc := defScope st_layers) (by decide +kernel)) (fun _ _ _ _ _ => pg_tup rfl (pgs_cons (pg_name (i := 2) nd_layers rfl (Or.inl rfl)) (pgs_cons (pg_name (i := 3) nd_layers rfl (Or.inl rfl)) pgs_nil))) (fun _ _ _ _ _ => (di_lst (de_op od_addT (de_lst (da_cons (dv 2) da_nil)) (de_lcT [5, 4] rfl rfl nd_layers (di_tup (dv 3)) (blkOk_in (blkOk_by (own := [("_", 5), ("atom", 4)]) (N := N_layers) (by decide +kernel))) (fun _ _ _ _ _ => pg_tup rfl (pgs_cons (pg_name (i := 5) nd_layers rfl (Or.inl rfl)) (pgs_cons (pg_name (i := 4) nd_layers rfl (Or.inl rfl)) pgs_nil))) (fun _ _ _ _ _ => dts_nil) (fun _ _ _ _ _ => (dv 4)))))) (fun _ _ _ _ _ => pg_name (i := 4) nd_layers rfl (Or.inl rfl)) (fun _ _ _ _ _ => dts_nil) (fun _ _ _ _ _ => (de_ix (dv 4) de_int)))))
    (dss_cons (ds_setDc 6 rfl nd_layers rfl rfl (sw_trueD rfl rfl rfl (by decide +kernel)) (di_lst (dv 1)) (blkOk_by (own := [("word", 7)]) (N := N_layers) (sc := defScope st_layers) (by decide +kernel)) (fun _ _ _ _ _ => pg_name (i := 7) nd_layers rfl (Or.inl rfl)) (fun _ _ _ _ _ => dts_nil) (fun _ _ _ _ _ => (dv 7)) (fun _ _ _ _ _ => de_int))
    (dss_cons (ds_for (passes_of rfl) rfl (di_rng rfl Z.f_range (da_cons (de_op od_addT (de_cB oc_len rfl Z.f_len bb_len (da_cons (dv 1) da_nil)) de_int) da_nil)) (dg_name 5 nd_layers) (dss_cons (ds_set 8 nd_layers de_bl)
    (dss_cons (ds_for (passes_of rfl) rfl (di_vals (dv 0)) (dg_tup (n := 2) rfl (dgs_cons (dg_name 2 nd_layers) (dgs_cons (dg_name 3 nd_layers) dgs_nil))) (dss_one (ds_for (passes_of rfl) rfl (di_tup (dv 3)) (dg_tup (n := 2) rfl (dgs_cons (dg_name 9 nd_layers) (dgs_cons (dg_tup (n := 2) rfl (dgs_cons (dg_name 7 nd_layers) (dgs_cons (dg_name 5 nd_layers) dgs_nil))) dgs_nil))) (dss_cons (ds_set 10 nd_layers (de_op od_addT (de_get B.units1 (dv 6) (dv 7)) (de_cT oc_int rfl Z.f_int bb_int (da_cons (de_not (dv 9)) da_nil))))
    (dss_one (ds_if (dt_cmp (od_ord op_lt) (de_get B.units1 (dv 6) (de_ix (dv 2) de_int)) (dv 10) rfl) (dss_cons (ds_dput B.units1 (dv 6) (de_ix (dv 2) de_int) (dv 10))
    (dss_one (ds_set 8 nd_layers de_bl))) dss_nil))))))
    (dss_one (ds_if (dt_not (dt_val (dv 8))) (dss_one (ds_ret (de_lck (dv 6)))) dss_nil)))))
    (dss_one ds_never))))) ?_, Z.g_layers, F.kp, hb⟩
  rintro ds S Q E hl ⟨rs, rfl, hf, hq⟩
  rw [show startD N_layers [rulesD rs] = [some (rulesD rs), none, none, none, none, none, none, none, none, none, none] from rfl]
  refine seq_cut (fun ρ S1 => ∃ ws : List Tx, ws.Nodup ∧ (∀ y, y ∈ ws ↔ y ∈ wordsOf rs) ∧ ρ = [some (rulesD rs), some (.lst (ws.map D.str)), none, none, none, none, none, none, none, none, none] ∧ S1 = S) (fun Rest hR => ?_) ?_
  · unfold rulesD
    walk_at "nd"
    refine ⟨_, _, rfl, ?_⟩
    have e0 : (rs.flatMap fun p => p.2.words.map D.str) = (wordsOf rs).map D.str := by
      unfold wordsOf
      rw [List.map_flatMap]
    refine lc2T_map (vs := [2, 3]) (fun p => [p.2.h.d, bodyD p.2.b]) (fun p => p.2.words.map D.str) 1000 rs [] S (fun x hx => rfl) (fun p hp acc' Q' hl q => ?_) (by rw [e0, List.length_map]; simpa using hf.w) ?_
    · show tdOp _ _ _ [some (D.dct (rs.map fun p => Sum.inr p.1) (rs.map fun p => p.2.d)), none, some p.2.h.d, some (bodyD p.2.b), none, none, none, none, none, none, none] S _
      unfold bodyD
      walk_at "nd"
      refine lcT_m (vs := [5, 4]) Atom.d (fun a => [.bl true, a.d]) (fun _ => rfl) p.2.b [] S (fun a ha Q'' q'' => ?_) ?_ ?_
      · show tdV 4 [some (D.dct (rs.map fun p => Sum.inr p.1) (rs.map fun p => p.2.d)), none, some p.2.h.d, some (D.tup (p.2.b.map fun a => D.tup [D.bl true, a.d])), some a.d, some (.bl true), none, none, none, none, none] S Q''
        exact ⟨_, rfl, q''⟩
      · have := (hf.b p hp).1
        simp
        omega
      · rw [List.nil_append]
        have := (hf.b p hp).1
        refine ⟨sz5 (by rw [List.length_map]; show 1 + _ ≤ _; omega), ?_⟩
        show lcR 4 tdYes (tdOp gIx (tdV 4) (tdC (D.int 0))) [some (D.dct (rs.map fun p => Sum.inr p.1) (rs.map fun p => p.2.d)), none, some p.2.h.d, some (D.tup (p.2.b.map fun a => D.tup [D.bl true, a.d])), none, none, none, none, none, none, none] ((p.2.h :: p.2.b).map Atom.d) acc' S Q'
        have e1 : (p.2.h :: p.2.b).map (fun a => D.str a.w) = p.2.words.map D.str := by unfold Rule.words; rw [List.map_cons, List.map_cons, List.map_map]; rfl
        refine lcR_map Atom.d (fun a => .str a.w) (p.2.h :: p.2.b) acc' S (fun a ha Q'' q'' => ?_) (by rw [List.length_cons]; omega) (by rw [e1]; exact q)
        show tdOp gIx (tdV 4) (tdC (D.int 0)) [some (D.dct (rs.map fun p => Sum.inr p.1) (rs.map fun p => p.2.d)), none, some p.2.h.d, some (D.tup (p.2.b.map fun a => D.tup [D.bl true, a.d])), some a.d, none, none, none, none, none, none] S Q''
        unfold Atom.d
        walk_at "nd"
    · rw [e0, List.nil_append]
      exact ⟨wordsOf rs, rfl, Nat.le_trans hf.w (by omega), fun ys n1 n2 _ => hR _ _ ⟨ys, n1, n2, rfl, rfl⟩⟩
  rintro ρ S1 ⟨ws, hn, hm, rfl, rfl⟩
  have hwl : ws.length ≤ 1000 := Nat.le_trans (nd_len ws (wordsOf rs) hn fun x hx => (hm x).mp hx) hf.w
  refine seq_cut (fun ρ S2 => ∃ p, S1 p = none ∧ ρ = [some (rulesD rs), some (.lst (ws.map D.str)), none, none, none, none, some (.ref p), none, none, none, none] ∧ S2 = sup S1 p (.dic (zk ws))) (fun Rest hR => ?_) ?_
  · clear hq
    walk_at "nd"
    refine dcR_map D.str Sum.inr (fun _ => .int 0) ws [] S1 (fun x hx Q' q => ⟨_, rfl, q⟩) (fun x hx Q' q => q) (fun x => rfl) ?_ ?_
    · simp
      omega
    · rw [zk_merge hn]
      exact fun p hp => hR _ _ ⟨p, hp, rfl, rfl⟩
  rintro ρ S2 ⟨p, hp, rfl, rfl⟩
  refine seq_cut (fun ρ S2 => False) (fun Rest hR => ?_) ?_
  · clear hR
    walk_at "nd"
    refine ⟨by omega, by omega, ?_⟩
    rw [rng_nat, show List.range' 0 (ws.length + 1) = 0 :: List.range' 1 ws.length from rfl, List.map_cons]
    unfold forR
    refine seq_cut (t := tdAsg (tdC (D.bl false)) (gdName 8)) (fun ρ S2 => ρ = [some (rulesD rs), some (.lst (ws.map D.str)), none, none, none, some (nat 0), some (.ref p), none, some (.bl false), none, none] ∧ S2 = sup S1 p (.dic (zk ws))) (fun Rest2 hR2 => hR2 _ _ ⟨rfl, rfl⟩) ?_
    rintro ρ S2 ⟨rfl, rfl⟩
    refine seq_cut (fun ρ S2 => ∃ x2 x3 x5 x7 x9 x10, ρ = [some (rulesD rs), some (.lst (ws.map D.str)), x2, x3, none, x5, some (.ref p), x7, some (.bl false), x9, x10] ∧ S2 = sup S1 p (.dic (zk ws))) (fun Rest2 hR2 => ?_) ?_
    · clear hq
      walk_at "nd"
      refine ⟨_, _, rfl, ?_⟩
      refine for_ind (fun ds ρ S' => ∃ (r : Rules) (x2 x3 x5 x7 x9 x10 : Option D), (∀ q ∈ r, q ∈ rs) ∧ ds = r.map (fun p => p.2.d) ∧ ρ = [some (rulesD rs), some (.lst (ws.map D.str)), x2, x3, none, x5, some (.ref p), x7, some (.bl false), x9, x10] ∧ S' = sup S1 p (.dic (zk ws))) ?_ ?_ _ _ _
        ⟨rs, _, _, _, _, _, _, fun q h => h, rfl, rfl, rfl⟩
      · rintro ρ S' ⟨r, x2, x3, x5, x7, x9, x10, _, _, rfl, rfl⟩
        exact hR2 _ _ ⟨x2, x3, x5, x7, x9, x10, rfl, rfl⟩
      · rintro d ds ρ S' W hW ⟨r, x2, x3, x5, x7, x9, x10, e0, e1, rfl, rfl⟩
        cases r with
        | nil => cases e1
        | cons q r =>
          injection e1 with e1 e5
          subst e1 e5
          have hqm := e0 q List.mem_cons_self
          have e0' : ∀ y ∈ r, y ∈ rs := fun y h => e0 y (List.mem_cons_of_mem _ h)
          have hW2 : ∀ x5 x7 x9 x10, W [some (rulesD rs), some (.lst (ws.map D.str)), some q.2.h.d, some (bodyD q.2.b), none, x5, some (.ref p), x7, some (.bl false), x9, x10] (sup S1 p (.dic (zk ws))) := fun x5 x7 x9 x10 => hW _ _ ⟨r, _, _, x5, x7, x9, x10, e0', rfl, rfl, rfl⟩
          clear hW hR2 e0 e0'
          have hh : q.2.h.w ∈ ws := (hm _).mpr (List.mem_flatMap.mpr ⟨q, hqm, List.mem_cons_self⟩)
          have hbw : ∀ a ∈ q.2.b, a.w ∈ ws := fun a ha => (hm _).mpr (List.mem_flatMap.mpr ⟨q, hqm, List.mem_cons_of_mem _ (List.mem_map_of_mem ha)⟩)
          refine ⟨_, rfl, rfl, _, _, rfl, _, _, rfl, rfl, ?_⟩
          show tdFor _ _ _ _ [some (rulesD rs), some (.lst (ws.map D.str)), some q.2.h.d, some (bodyD q.2.b), none, x5, some (.ref p), x7, some (.bl false), x9, x10] _
          unfold bodyD at hW2 ⊢
          walk_at "nd"
          refine for_ind (fun ds ρ S' => ∃ (b : List Atom) (x5 x7 x9 x10 : Option D), (∀ a ∈ b, a ∈ q.2.b) ∧ ds = b.map (fun a => .tup [.bl true, a.d]) ∧ ρ = [some (rulesD rs), some (.lst (ws.map D.str)), some q.2.h.d, some (.tup (q.2.b.map fun a => .tup [.bl true, a.d])), none, x5, some (.ref p), x7, some (.bl false), x9, x10] ∧ S' = sup S1 p (.dic (zk ws))) ?_ ?_ _ _ _
            ⟨q.2.b, x5, x7, x9, x10, fun a h => h, rfl, rfl, rfl⟩
          · rintro ρ S' ⟨b, x5, x7, x9, x10, _, _, rfl, rfl⟩
            exact hW2 x5 x7 x9 x10
          · rintro d ds ρ S' W hW ⟨b, x5, x7, x9, x10, e0, e1, rfl, rfl⟩
            cases b with
            | nil => cases e1
            | cons a b =>
              injection e1 with e1 e5
              subst e1 e5
              have ham := hbw a (e0 a List.mem_cons_self)
              have hW3 : ∀ x5 x7 x9 x10, W [some (rulesD rs), some (.lst (ws.map D.str)), some q.2.h.d, some (.tup (q.2.b.map fun a => .tup [.bl true, a.d])), none, x5, some (.ref p), x7, some (.bl false), x9, x10] (sup S1 p (.dic (zk ws))) := fun x5 x7 x9 x10 => hW _ _ ⟨b, x5, x7, x9, x10, fun y h => e0 y (List.mem_cons_of_mem _ h), rfl, rfl, rfl⟩
              clear hW hW2 e0
              have z1 := zk_val ham
              have z2 := zk_val hh
              clear hbw
              refine ⟨_, rfl, rfl, _, _, rfl, _, _, rfl, _, rfl, rfl, _, _, rfl, _, _, rfl, rfl, rfl, ?_⟩
              show tdSeq _ _ _ [some (rulesD rs), some (.lst (ws.map D.str)), some (.tup [.str q.2.h.w, .tup (q.2.h.ps.map partD)]), some (.tup (q.2.b.map fun a => .tup [.bl true, a.d])), none, some (.tup (a.ps.map partD)), some (.ref p), some (.str a.w), some (.bl false), some (.bl true), x10] _
              have hW4 := hW3 (some (.tup (a.ps.map partD))) (some (.str a.w)) (some (.bl true)) (some (.int 0))
              clear hW3
              walk_at "nd"
              refine ⟨.inr a.w, rfl, .int 0, z1, .inr q.2.h.w, rfl, .int 0, z2, ?_⟩
              show if (0 : Int) < 0 + 0 then _ else _
              rw [if_neg (by decide)]
              exact hW4
    rintro ρ S2 ⟨x2, x3, x5, x7, x9, x10, rfl, rfl⟩
    walk_at "nd"
    rw [sdel_sup hp, show D.dct ((zk ws).map (·.1)) ((zk ws).map (·.2)) = zeroD ws by unfold zk zeroD; rw [List.map_map, List.map_map]; rfl]
    exact fini (hq ws S1 (Sub.refl S1) hn hm)
  · rintro ρ S2 ⟨⟩
theorem names_len : ∀ b : List Atom, (∀ a ∈ b, a.ps.length ≤ 10) → (namesOf b).length ≤ 10 * b.length
  | [], _ => Nat.zero_le _
  | a :: b, h => by
    have h1 := names_len b fun x hx => h x (List.mem_cons_of_mem _ hx)
    have h2 : a.names.length ≤ a.ps.length := by unfold Atom.names; rw [List.length_map]; exact List.length_filter_le _ _
    have h3 := h a List.mem_cons_self
    unfold namesOf at h1 ⊢
    rw [List.flatMap_cons, List.length_append, List.length_cons]
    omega
theorem lcT_fil {α : Type} {vs : List Nat} {tt : TDT} {te : TD} {ρ : Rho} {Q : List D → Store → Prop} (f : α → D) (g : α → List D) (p : α → Bool) (hl : ∀ x, (g x).length = vs.length) :
    ∀ (l : List α) (acc : List D) (S : Store), (∀ x ∈ l, ∀ Q' : Bool → Store → Prop, Q' (p x) S → tt (setD (unsetD ρ vs) vs (g x)) S Q') → (∀ x ∈ l, ∀ Q' : D → Store → Prop, Q' (f x) S → te (setD (unsetD ρ vs) vs (g x)) S Q') → acc.length + l.length ≤ 100000 → Q (acc ++ (l.filter p).map f) S → lcT vs tt te ρ (l.map fun x => .tup (g x)) acc S Q
  | [], acc, S, _, _, _, q => by
    rw [List.filter_nil, List.map_nil, List.append_nil] at q
    exact q
  | x :: l, acc, S, hp, ht, hz, q => by
    rw [List.length_cons] at hz
    rw [List.map_cons]
    unfold lcT
    refine ⟨g x, rfl, hl x, hp x List.mem_cons_self _ ?_⟩
    cases e : p x with
    | true =>
      rw [List.filter_cons_of_pos e] at q
      refine iteT (ht x List.mem_cons_self _ ⟨Nat.lt_of_lt_of_le (show acc.length < 100001 by omega) (sz5 (by omega)), ?_⟩)
      refine lcT_fil f g p hl l (acc ++ [f x]) S (fun k hk => hp k (List.mem_cons_of_mem _ hk)) (fun k hk => ht k (List.mem_cons_of_mem _ hk)) (by rw [List.length_append]; show acc.length + 1 + l.length ≤ _; omega) ?_
      rw [List.append_assoc]
      exact q
    | false =>
      rw [List.filter_cons_of_neg (by rw [e]; simp)] at q
      exact iteF (lcT_fil f g p hl l acc S (fun k hk => hp k (List.mem_cons_of_mem _ hk)) (fun k hk => ht k (List.mem_cons_of_mem _ hk)) (by omega) q)
def m_check_rules : M := fun ds S Q E => ∃ rs : Rules, ds = [rulesD rs] ∧ Fits rs ∧ ∀ (ws : List Tx) S', Sub S S' → ws.Nodup → (∀ y, y ∈ ws ↔ y ∈ wordsOf rs) → Q (zeroD ws) S'
theorem d_check_rules (Z : Zf P w K mg base) : Ca P w K mg base 3 "check_rules" ["rules"] m_check_rules := by
  obtain ⟨fd, F, hb⟩ := Z.F_check_rules
  refine ⟨_, fd, df_of (k := 2) F sc_check_rules (fun cdv A outer s H E F0 E' B => (dss_cons (ds_for (passes_of rfl) rfl (di_vals (dv 0)) (dg_tup (n := 2) rfl (dgs_cons (dg_name 1 nd_check_rules) (dgs_cons (dg_name 2 nd_check_rules) dgs_nil))) (dss_cons (ds_set 3 nd_check_rules (de_ca (d_names_in Z) (B.mono (by omega)) rfl (da_cons (de_lcT [4, 5] rfl rfl nd_check_rules (di_tup (dv 2)) (blkOk_by (own := [("flag", 4), ("atom", 5)]) (N := N_check_rules) (sc := defScope st_check_rules) (by decide +kernel)) (fun _ _ _ _ _ => pg_tup rfl (pgs_cons (pg_name (i := 4) nd_check_rules rfl (Or.inl rfl)) (pgs_cons (pg_name (i := 5) nd_check_rules rfl (Or.inl rfl)) pgs_nil))) (fun _ _ _ _ _ => (dts_one (dt_val (dv 4)))) (fun _ _ _ _ _ => (dv 5))) da_nil)))
    (dss_one (ds_if (dt_cmp od_in de_bl (de_lc rfl nd_check_rules (di_lst (de_ca (d_names_in Z) (B.mono (by omega)) rfl (da_cons (de_op od_addT (de_lst (da_cons (dv 1) da_nil)) (de_lcT [4, 5] rfl rfl nd_check_rules (di_tup (dv 2)) (blkOk_by (own := [("flag", 4), ("atom", 5)]) (N := N_check_rules) (sc := defScope st_check_rules) (by decide +kernel)) (fun _ _ _ _ _ => pg_tup rfl (pgs_cons (pg_name (i := 4) nd_check_rules rfl (Or.inl rfl)) (pgs_cons (pg_name (i := 5) nd_check_rules rfl (Or.inl rfl)) pgs_nil))) (fun _ _ _ _ _ => (dts_one (dt_not (dt_val (dv 4))))) (fun _ _ _ _ _ => (dv 5)))) da_nil))) (blkOk_by (own := [("name", 6)]) (N := N_check_rules) (sc := defScope st_check_rules) (by decide +kernel)) (fun _ _ _ _ _ => pg_name (i := 6) nd_check_rules rfl (Or.inl rfl)) (fun _ _ _ _ _ => dts_nil) (fun _ _ _ _ _ => (de_cmp od_in (dv 6) (dv 3) rfl))) rfl) (dss_one ds_never) dss_nil))))
    (dss_one (ds_ret (de_ca (d_layers Z) (B.mono (by omega)) rfl (da_cons (dv 0) da_nil)))))) ?_, Z.g_check_rules, F.kp, hb⟩
  rintro ds S Q E hl ⟨rs, rfl, hf, hq⟩
  rw [show startD N_check_rules [rulesD rs] = [some (rulesD rs), none, none, none, none, none, none] from rfl]
  refine seq_cut (fun ρ S1 => ∃ x1 x2 x3, ρ = [some (rulesD rs), x1, x2, x3, none, none, none] ∧ S1 = S) (fun Rest hR => ?_) ?_
  · clear hq
    walk_at "nd"
    refine ⟨_, _, rfl, ?_⟩
    refine for_ind (fun ds ρ S' => ∃ (r : Rules) (x1 x2 x3 : Option D), (∀ q ∈ r, q ∈ rs) ∧ ds = r.map (fun p => p.2.d) ∧ ρ = [some (rulesD rs), x1, x2, x3, none, none, none] ∧ S' = S) ?_ ?_ _ _ _
      ⟨rs, none, none, none, fun q h => h, rfl, rfl, rfl⟩
    · rintro ρ S' ⟨r, x1, x2, x3, _, _, rfl, rfl⟩
      exact hR _ _ ⟨x1, x2, x3, rfl, rfl⟩
    · rintro d ds ρ S' W hW ⟨r, x1, x2, x3, e0, e1, rfl, rfl⟩
      cases r with
      | nil => cases e1
      | cons q r =>
        injection e1 with e1 e5
        subst e1 e5
        have hqm := e0 q List.mem_cons_self
        have e0' : ∀ y ∈ r, y ∈ rs := fun y h => e0 y (List.mem_cons_of_mem _ h)
        obtain ⟨hb1, hb2, hb3⟩ := hf.b q hqm
        have hsafe := hf.s q hqm
        have hW2 : ∀ x3, W [some (rulesD rs), some q.2.h.d, some (bodyD q.2.b), x3, none, none, none] S' := fun x3 => hW _ _ ⟨r, _, _, x3, e0', rfl, rfl, rfl⟩
        clear hW hR e0 e0'
        refine ⟨_, rfl, rfl, _, _, rfl, _, _, rfl, rfl, ?_⟩
        show tdSeq _ _ _ [some (rulesD rs), some q.2.h.d, some (bodyD q.2.b), x3, none, none, none] _
        have hnb : (namesOf q.2.b).length ≤ 1000 := by have := names_len q.2.b hb3; omega
        refine seq_cut (fun ρ S2 => ∃ ys : List Tx, (∀ y, y ∈ ys ↔ y ∈ namesOf q.2.b) ∧ ρ = [some (rulesD rs), some q.2.h.d, some (bodyD q.2.b), some (.lst (ys.map D.str)), none, none, none] ∧ S2 = S') (fun Rest2 hR2 => ?_) ?_
        · clear hW2
          unfold bodyD at hR2 ⊢
          walk_at "nd"
          refine lcT_fil (vs := [4, 5]) Atom.d (fun a => [.bl true, a.d]) (fun _ => true) (fun _ => rfl) q.2.b [] S' (fun a ha Q' q' => ⟨_, rfl, true, rfl, q'⟩) (fun a ha Q' q' => ⟨_, rfl, q'⟩) (by simp; omega) ?_
          refine ⟨q.2.b, by rw [List.nil_append, List.filter_eq_self.mpr fun _ _ => rfl], hnb, fun ys _ n2 => hR2 _ _ ⟨ys, n2, rfl, rfl⟩⟩
        rintro ρ S2 ⟨ys, hys, rfl, rfl⟩
        have hW3 := hW2 (some (.lst (ys.map D.str)))
        clear hW2
        unfold bodyD at hW3 ⊢
        walk_at "nd"
        refine lcT_fil (vs := [4, 5]) Atom.d (fun a => [.bl true, a.d]) (fun _ => false) (fun _ => rfl) q.2.b [] S2 (fun a ha Q' q' => ⟨_, rfl, true, rfl, q'⟩) (fun a ha Q' q' => ⟨_, rfl, q'⟩) (by simp; omega) ?_
        rw [show q.2.b.filter (fun _ => false) = [] by simp, List.map_nil, List.append_nil]
        refine ⟨sz5 (show 1 ≤ _ by omega), [q.2.h], rfl, ?_, fun zs z1 z2 => ?_⟩
        · have := names_len [q.2.h] (fun a ha => by rw [List.mem_singleton.mp ha]; exact hb2)
          simp at this
          omega
        have hin : ∀ z ∈ zs, z ∈ ys := fun z hz => (hys z).mpr (hsafe z (by have := (z2 z).mp hz; unfold namesOf at this; simpa using this))
        have hzl : zs.length ≤ 1000 := by
          have h1 := nd_len zs (namesOf [q.2.h]) z1 fun x hx => (z2 x).mp hx
          have := names_len [q.2.h] (fun a ha => by rw [List.mem_singleton.mp ha]; exact hb2)
          simp at this
          omega
        show lcR 6 tdYes _ _ (zs.map D.str) [] S2 _
        refine lcR_map D.str (fun _ => .bl true) zs [] S2 (fun z hz Q' q' => ?_) (by simp; omega) ?_
        · walk_at "nd"
          rw [decide_eq_true ((hys z).mp (hin z hz))]
          exact q'
        · rw [List.nil_append]
          have e1 : (zs.map fun _ => D.bl true).all flatD = true := by
            clear hin hzl z1 z2
            induction zs with
            | nil => rfl
            | cons a zs ih => exact ih
          have e2 : (zs.map fun _ => D.bl true).any (fun y => eqF y (.bl false)) = false := by
            clear hin hzl z1 z2 e1
            induction zs with
            | nil => rfl
            | cons a zs ih => exact ih
          refine ⟨rfl, e1, _, rfl, ?_⟩
          rw [e2, if_neg (by decide)]
          exact hW3
  rintro ρ S1 ⟨x1, x2, x3, rfl, rfl⟩
  walk_at "nd"
  exact ⟨rs, rfl, hf, fun ws S' h1 h2 h3 => fini (hq ws S' h1 h2 h3)⟩
end K07
namespace K07
open PySem PySem.Spec L2 DL
local macro_rules | `(tactic| walk_at "nd") => `(tactic| simp only [icO, isN0, gStr, tdiE, tdiZT, gSortND, gSortL, gSortDX, tdListVals, tdSortItems, tdiVals, gDictC, tdLck, tdSetd, tdExt, gIntT, tdTruT, tdRaise0, gTupP, tdPt, gDictT, tdLc2T, tdLcN, gLenN, tdValsI, tdSortSet, gCatB, gEq_bb, tdLcB, tdDNew, tdNNew, tdNGet, tdNPut, tdFGet, tdiF, tdDctF, tdDc, tdDcN, tdTru, tdDAugG, tdDictZ, tdCallV, tdLc2, ln_4, ln_5, ln_6, fmod_2, fdiv_2, gAddT, tdIdx, gdUnl, tdiD, gSortI, gMin2, gMax2, gTuple, gDictP, tdLcT, lcT, setD, unsetD, tdKGet, tdKGet2, tdGet2, tdPop, tdSeq, tdAsg, tdV, gdName, tdAnd, tdOr, tdNot, tdB, tdOp, tdCB, tdCons, tdNil, tdC, tdAug, tdSl, tdP, tdRet, tdTup, tdIf, tdIfS, gOrd, gI0, gI, gLen, gIx, gAdd, gInt, vw, ixP, gSl, tdDrop, tdRetN, tdNext, gIn_sc, gIn_ts, gIn_ls, gIn_t2, gIn_l2, gIn_l4, tdApp, sl_0, sl_1, sl_2, sl_3, sl_4, sl_5, ff, tt', true_and, id,
  eqS, tdFor, tdiT, tdiL, tdiR, tdXp, gList, gEq_ns, tdJoin, gJoin, vwS, gMul, gMod, gDiv, gPow, gI, tdAugS, gdSub, gSet, ixN_2, ixN_3, atI_3, atI_4, gEq_ss, gEq_ii, tdDict, tdPairs, tdNeg, Option.isNone_none, Option.isNone_some, gIsi, tdGet, tdDPut, tdDAug, tdIsN, tdNotN, DO.dic.injEq, Option.isNone_none, Option.isNone_some, gIn_l2, gIn_t2, Option.getD_some, tdLc, gMax, tdNoP, forR, tdRaise, tdCall, tdNotV, tdAndV, tdOrV, tdBox, tdZ, gdTup, gdCons, gdNil, tdBreak, tdCont, tdYes, icast, icast1, icast2, icast3, tdLst, gIn_l4, icastL, icastE, icastZ, ln_0, ln_1, ln_2, ln_3,
  List.getElem?_cons_zero, List.getElem?_cons_succ, List.set_cons_zero, List.set_cons_succ, Option.some.injEq, exists_eq_left', exists_eq_left, D.bl.injEq, decide_eq_true_eq,
  tdFldC, tdMeth, tdMake, tdPutF, tdAugF, D.ref.injEq, DO.ins.injEq, and_assoc, DL.gSub, D.int.injEq, D.str.injEq, sup_same, eq_self, not_true_eq_false, not_false_eq_true, Bool.false_eq_true, Bool.not_eq_true, decide_not, atIn, atI_0, atI_1, atI_2, List.getElem?_map, Option.map_some, Option.map_none, decide_true, decide_false, Bool.not_true, Bool.not_false, if_true, if_false, lm_0, lm_1, lm_2, List.length_map, exists_and_left, *])
variable {P : Program} {w : World} {K : PySem.W.Frag} {mg : Str → Option Value} {base : Heap}
theorem perm_map {α : Type} {f : α → D} : ∀ {es : List D} {l : List α}, es.Perm (l.map f) → ∃ l' : List α, l'.Perm l ∧ es = l'.map f
  | [], l, h => by
    have : l.map f = [] := h.nil_eq.symm
    cases l with
    | nil => exact ⟨[], .refl _, rfl⟩
    | cons a l => cases this
  | e :: es, l, h => by
    obtain ⟨x, hx, rfl⟩ := List.mem_map.mp (h.mem_iff.mp List.mem_cons_self)
    obtain ⟨l1, l2, rfl⟩ := List.append_of_mem hx
    rw [List.map_append, List.map_cons] at h
    have h2 := (h.trans List.perm_middle).cons_inv
    rw [← List.map_append] at h2
    obtain ⟨l', p, rfl⟩ := perm_map h2
    exact ⟨x :: l', (List.Perm.cons x p).trans List.perm_middle.symm, rfl⟩
def thingK (t : Tx) : NestedKey := .tup [.text (tS (tx "thing")), .text (tS t)]
def fk (f : Fact) : NestedKey := .tup [.text (tS f.w), .tup (f.ts.map thingK)]
theorem ts_map (f : Fact) : f.atom.ps.map partD = f.ts.map fun t => partD (false, t) := by unfold Fact.atom; rw [List.map_map]; rfl
theorem nk_ts : ∀ ts : List Tx, nkDs (ts.map fun t => partD (false, t)) = some (ts.map thingK)
  | [] => rfl
  | t :: ts => by
    rw [List.map_cons]
    unfold nkDs
    rw [nk_ts ts]
    rfl
theorem thingK_inj : ∀ {a b : Tx}, thingK a = thingK b → a = b := fun h => by
  unfold thingK at h
  injection h with h
  injection h with _ h
  injection h with h _
  injection h with h
  exact tS_inj h
theorem map_inj {α β : Type} {f : α → β} (hf : ∀ {a b}, f a = f b → a = b) : ∀ {l m : List α}, l.map f = m.map f → l = m
  | [], [], _ => rfl
  | [], _ :: _, h => by cases h
  | _ :: _, [], h => by cases h
  | a :: l, b :: m, h => by
    rw [List.map_cons, List.map_cons] at h
    injection h with h1 h2
    rw [hf h1, map_inj hf h2]
theorem fk_inj {f g : Fact} (h : fk f = fk g) : f = g := by
  obtain ⟨a, l⟩ := f
  obtain ⟨b, m⟩ := g
  unfold fk at h
  injection h with h
  injection h with h1 h
  injection h1 with h1
  injection h with h2 _
  injection h2 with h2
  have e1 : a = b := tS_inj h1
  have e2 : l = m := map_inj thingK_inj h2
  rw [e1, e2]
theorem depth_ts : ∀ ts : List Tx, NestedKey.depthAll (ts.map thingK) ≤ 1
  | [] => Nat.zero_le _
  | t :: ts => by
    rw [List.map_cons]
    unfold NestedKey.depthAll
    have := depth_ts ts
    refine Nat.max_le.mpr ⟨?_, this⟩
    unfold thingK NestedKey.depth NestedKey.depthAll NestedKey.depthAll NestedKey.depthAll NestedKey.depth
    decide
theorem fk_d (f : Fact) : KeyD f.d (fk f) := by
  refine ⟨?_, ?_, _, rfl⟩
  · unfold Fact.d Atom.d nkD
    rw [ts_map]
    unfold nkDs nkD
    rw [nkDs]
    unfold nkD
    rw [nk_ts]
    rfl
  · have := depth_ts f.ts
    unfold fk NestedKey.depth NestedKey.depthAll NestedKey.depthAll NestedKey.depthAll
    simp only [NestedKey.depth]
    omega
abbrev Es := List (Fact × D)
def kvF (es : Es) : List (NestedKey × D × D) := es.map fun e => (fk e.1, e.1.d, e.2)
def facts (es : Es) : List Fact := es.map (·.1)
theorem kvF_len (es : Es) : (kvF es).length = es.length := List.length_map _
theorem kvF_facts (es : Es) : (kvF es).map (·.2.1) = (facts es).map Fact.d := by
  unfold kvF facts
  rw [List.map_map, List.map_map]
  rfl
theorem vN_kvF : ∀ (es : Es) (f : Fact), DL.vN (kvF es) (fk f) = (es.lookup f).map fun v => (f.d, v)
  | [], f => rfl
  | (g, u) :: es, f => by
    show (if fk g = fk f then some (g.d, u) else DL.vN (kvF es) (fk f)) = _
    by_cases e : g = f
    · subst e
      rw [List.lookup_cons_self, if_pos rfl]
      rfl
    · have e2 : (f == g) = false := beq_eq_false_iff_ne.mpr fun z => e z.symm
      rw [List.lookup_cons, e2, if_neg fun z => e (fk_inj z)]
      exact vN_kvF es f
theorem look_none {es : Es} {f : Fact} : es.lookup f = none ↔ f ∉ facts es := by
  unfold facts
  rw [List.lookup_eq_none_iff]
  constructor
  · intro h z
    obtain ⟨e, h1, h2⟩ := List.mem_map.mp z
    have := h e h1
    rw [h2] at this
    simp at this
  · intro h e he
    simp only [bne_iff_ne, ne_eq, beq_iff_eq]
    intro z
    exact h (List.mem_map.mpr ⟨e, he, z.symm⟩)
theorem has_kvF (es : Es) (f : Fact) : (DL.vN (kvF es) (fk f)).isSome = decide (f ∈ facts es) := by
  rw [vN_kvF, Option.isSome_map]
  cases h : es.lookup f with
  | none =>
    have := look_none.mp h
    simp [this]
  | some v =>
    have : f ∈ facts es := by
      apply Classical.byContradiction
      intro z
      rw [look_none.mpr z] at h
      cases h
    simp [this]
theorem setN_new {es : Es} {f : Fact} (v : D) (h : f ∉ facts es) : setN (kvF es) (fk f) f.d v = kvF (es ++ [(f, v)]) := by
  unfold setN pN
  rw [if_neg (by rw [has_kvF]; simp [h])]
  unfold kvF
  rw [List.map_append]
  rfl
def tsData (ts : List Tx) : List PyData := ts.map fun t => .tuple [.str (tS (tx "thing")), .str (tS t)]
theorem ts_data : ∀ ts : List Tx, D.datas (ts.map fun t => partD (false, t)) = tsData ts
  | [] => rfl
  | t :: ts => by
    rw [List.map_cons]
    unfold D.datas
    rw [ts_data ts]
    rfl
theorem fact_data (f : Fact) : f.d.data = .tuple [.str (tS f.w), .tuple (tsData f.ts)] := by
  unfold Fact.d Atom.d D.data D.datas D.data
  rw [ts_map]
  unfold D.datas D.data
  rw [ts_data]
  rfl
theorem ts_alike : ∀ ts us : List Tx, PySem.W.alikeAll (tsData ts) (tsData us) = true
  | [], us => by cases us <;> rfl
  | _ :: _, [] => rfl
  | t :: ts, u :: us => by
    show PySem.W.alikeAll (_ :: tsData ts) (_ :: tsData us) = true
    unfold PySem.W.alikeAll
    rw [ts_alike ts us]
    rfl
theorem ts_depth : ∀ ts : List Tx, PyData.depthAll (tsData ts) ≤ 1
  | [] => Nat.zero_le _
  | t :: ts => by
    show PyData.depthAll (_ :: tsData ts) ≤ 1
    unfold PyData.depthAll
    refine Nat.max_le.mpr ⟨?_, ts_depth ts⟩
    simp only [PyData.depth, PyData.depthAll]
    decide
theorem ts_pure : ∀ ts : List Tx, D.pures (ts.map fun t => partD (false, t)) = true
  | [] => rfl
  | t :: ts => by
    rw [List.map_cons]
    unfold D.pures
    rw [ts_pure ts]
    rfl
theorem fact_pure (f : Fact) : f.d.pure = true := by
  unfold Fact.d Atom.d D.pure D.pures D.pures D.pures
  rw [ts_map]
  simp only [D.pure, ts_pure, Bool.and_self]
theorem fact_sort {fs : List Fact} (h : fs.length ≤ 1000000) : CanSort (fs.map Fact.d) where
  pure := by
    clear h
    induction fs with
    | nil => rfl
    | cons f fs ih => rw [List.map_cons]; unfold D.pures; rw [ih, fact_pure]; rfl
  alike := fun d hd e he => by
    obtain ⟨f, _, rfl⟩ := List.mem_map.mp hd
    obtain ⟨g, _, rfl⟩ := List.mem_map.mp he
    rw [fact_data, fact_data]
    unfold PySem.W.alike PySem.W.alikeAll PySem.W.alikeAll PySem.W.alikeAll PySem.W.alike
    simp only [ts_alike, Bool.and_self]
  sortable := .inl fun d hd => by
    rw [List.map_map] at hd
    obtain ⟨f, _, rfl⟩ := List.mem_map.mp hd
    exact ⟨_, _, fact_data f⟩
  deep := fun d hd => by
    obtain ⟨f, _, rfl⟩ := List.mem_map.mp hd
    rw [fact_data]
    have := ts_depth f.ts
    unfold PyData.depth PyData.depthAll PyData.depthAll PyData.depthAll PyData.depth
    omega
  len := by rw [List.length_map]; exact Nat.le_trans h (sz5 (by decide))
end K07
namespace K07
open PySem PySem.Spec L2 DL
local macro_rules | `(tactic| walk_at "nd") => `(tactic| simp only [icO, isN0, gStr, tdiE, tdiZT, gSortND, gSortL, gSortDX, tdListVals, tdSortItems, tdiVals, gDictC, tdLck, tdSetd, tdExt, gIntT, tdTruT, tdRaise0, gTupP, tdPt, gDictT, tdLc2T, tdLcN, gLenN, tdValsI, tdSortSet, gCatB, gEq_bb, tdLcB, tdDNew, tdNNew, tdNGet, tdNPut, tdFGet, tdiF, tdDctF, tdDc, tdDcN, tdTru, tdDAugG, tdDictZ, tdCallV, tdLc2, ln_4, ln_5, ln_6, fmod_2, fdiv_2, gAddT, tdIdx, gdUnl, tdiD, gSortI, gMin2, gMax2, gTuple, gDictP, tdLcT, lcT, setD, unsetD, tdKGet, tdKGet2, tdGet2, tdPop, tdSeq, tdAsg, tdV, gdName, tdAnd, tdOr, tdNot, tdB, tdOp, tdCB, tdCons, tdNil, tdC, tdAug, tdSl, tdP, tdRet, tdTup, tdIf, tdIfS, gOrd, gI0, gI, gLen, gIx, gAdd, gInt, vw, ixP, gSl, tdDrop, tdRetN, tdNext, gIn_sc, gIn_ts, gIn_ls, gIn_t2, gIn_l2, gIn_l4, tdApp, sl_0, sl_1, sl_2, sl_3, sl_4, sl_5, ff, tt', true_and, id,
  eqS, tdFor, tdiT, tdiL, tdiR, tdXp, gList, gEq_ns, tdJoin, gJoin, vwS, gMul, gMod, gDiv, gPow, gI, tdAugS, gdSub, gSet, ixN_2, ixN_3, atI_3, atI_4, gEq_ss, gEq_ii, tdDict, tdPairs, tdNeg, Option.isNone_none, Option.isNone_some, gIsi, tdGet, tdDPut, tdDAug, tdIsN, tdNotN, DO.dic.injEq, Option.isNone_none, Option.isNone_some, gIn_l2, gIn_t2, Option.getD_some, tdLc, gMax, tdNoP, forR, tdRaise, tdCall, tdNotV, tdAndV, tdOrV, tdBox, tdZ, gdTup, gdCons, gdNil, tdBreak, tdCont, tdYes, icast, icast1, icast2, icast3, tdLst, gIn_l4, icastL, icastE, icastZ, ln_0, ln_1, ln_2, ln_3,
  List.getElem?_cons_zero, List.getElem?_cons_succ, List.set_cons_zero, List.set_cons_succ, Option.some.injEq, exists_eq_left', exists_eq_left, D.bl.injEq, decide_eq_true_eq,
  tdFldC, tdMeth, tdMake, tdPutF, tdAugF, D.ref.injEq, DO.ins.injEq, and_assoc, DL.gSub, D.int.injEq, D.str.injEq, sup_same, eq_self, not_true_eq_false, not_false_eq_true, Bool.false_eq_true, Bool.not_eq_true, decide_not, atIn, atI_0, atI_1, atI_2, List.getElem?_map, Option.map_some, Option.map_none, decide_true, decide_false, Bool.not_true, Bool.not_false, if_true, if_false, lm_0, lm_1, lm_2, List.length_map, exists_and_left, *])
variable {P : Program} {w : World} {K : PySem.W.Frag} {mg : Str → Option Value} {base : Heap}
abbrev ClC (K : PySem.W.Frag) : Addr := He.ga K "Closing"
abbrev TwC (K : PySem.W.Frag) : Addr := He.ga K "TooWide"
def clF (r : D) (p : Addr) (t : Nat) (ly : D) : List (Str × D) := [("rules", r), ("found", .ref p), ("tries", .int ((t : Nat) : Int)), ("layers", ly)]
abbrev clO (K : PySem.W.Frag) (r : D) (p : Addr) (t : Nat) (ly : D) : DO := .ins (ClC K) (clF r p t ly)
section
variable {r ly : D} {p : Addr} {t : Nat}
theorem lk_rules : (clF r p t ly).lookup ("rules" : Str) = some r := rfl
theorem lk_found : (clF r p t ly).lookup ("found" : Str) = some (.ref p) := rfl
theorem lk_tries : (clF r p t ly).lookup ("tries" : Str) = some (.int ((t : Nat) : Int)) := rfl
theorem lk_layers : (clF r p t ly).lookup ("layers" : Str) = some ly := rfl
theorem lm_ways : (clF r p t ly).lookup ("ways" : Str) = none := rfl
theorem lm_close : (clF r p t ly).lookup ("close" : Str) = none := rfl
theorem clF_len : ((clF r p t ly).length < 1000) = True := eq_true (show 4 < 1000 by omega)
theorem pu_tries : putFD "tries" (.int ((t : Nat) + 1)) (clF r p t ly) = clF r p (t + 1) ly := rfl
end
section
theorem pl_rules (Z : Zf P w K mg base) : Plain K "rules" (ClC K) = True := eq_true ⟨Z.c_Closing, Z.n_Closing_rules⟩
theorem pl_found (Z : Zf P w K mg base) : Plain K "found" (ClC K) = True := eq_true ⟨Z.c_Closing, Z.n_Closing_found⟩
theorem pl_tries (Z : Zf P w K mg base) : Plain K "tries" (ClC K) = True := eq_true ⟨Z.c_Closing, Z.n_Closing_tries⟩
theorem pl_layers (Z : Zf P w K mg base) : Plain K "layers" (ClC K) = True := eq_true ⟨Z.c_Closing, Z.n_Closing_layers⟩
end
/-- the closing at c, in S -/
structure Cl (w : World) (K : PySem.W.Frag) (c p : Addr) (r ly : D) (t : Nat) (es : Es) (S : Store) : Prop where
  o : S c = some (clO K r p t ly)
  f : S p = some (.dn w p (kvF es))
/-- nothing but c is another -/
def Mvd (c : Addr) (S S' : Store) : Prop := ∀ a o, a ≠ c → S a = some o → S' a = some o
theorem Mvd.refl (c : Addr) (S : Store) : Mvd c S S := fun _ _ _ h => h
theorem Mvd.trans {c : Addr} {A B C : Store} (h : Mvd c A B) (g : Mvd c B C) : Mvd c A C := fun a o n e => g a o n (h a o n e)
theorem Mvd.sub {c : Addr} {A B : Store} (h : Sub A B) : Mvd c A B := fun a o _ e => h a o e
theorem Mvd.put (c : Addr) (S : Store) (o : DO) : Mvd c S (sup S c o) := fun a u n e => by rw [sup_ne n]; exact e
theorem Cl.ne {c p : Addr} {r ly : D} {t : Nat} {es : Es} {S : Store} (h : Cl w K c p r ly t es S) : p ≠ c := fun e => by
  have h1 := h.o
  rw [← e, h.f] at h1
  cases h1
theorem Cl.sub {c p : Addr} {r ly : D} {t : Nat} {es : Es} {S S' : Store} (h : Cl w K c p r ly t es S) (g : Sub S S') : Cl w K c p r ly t es S' := ⟨g _ _ h.o, g _ _ h.f⟩
theorem Cl.put {c p : Addr} {r ly : D} {t t' : Nat} {es : Es} {S : Store} (h : Cl w K c p r ly t es S) : Cl w K c p r ly t' es (sup S c (clO K r p t' ly)) := ⟨sup_same, by rw [sup_ne h.ne]; exact h.f⟩
def Way (fs : List Fact) : List Atom → Kn → Kn → Prop
  | [], k, k' => k' = k
  | a :: b, k, k' => ∃ f ∈ fs, ∃ k1, matchA a f k = some k1 ∧ Way fs b k1 k'
/-- a body with names only, of little size -/
structure BodyOk (b : List Atom) : Prop where
  n : b.length ≤ 10
  p : ∀ a ∈ b, a.ps.length ≤ 10
  a : ∀ a ∈ b, ∀ q ∈ a.ps, q.1 = true
theorem BodyOk.tl {a : Atom} {b : List Atom} (h : BodyOk (a :: b)) : BodyOk b := ⟨by have := h.n; rw [List.length_cons] at this; omega, fun x hx => h.p x (List.mem_cons_of_mem _ hx), fun x hx => h.a x (List.mem_cons_of_mem _ hx)⟩
theorem matchP_len : ∀ (L : List (Part × Tx)) (k k' : Kn), matchP L k = some k' → k'.length ≤ k.length + L.length
  | [], k, k', h => by cases h; exact Nat.le_refl _
  | (p, t) :: L, k, k', h => by
    unfold matchP at h
    rw [List.length_cons]
    split at h
    · split at h
      · split at h
        · have := matchP_len L _ _ h; omega
        · cases h
      · have := matchP_len L _ _ h
        rw [List.length_append] at this
        simp only [List.length_cons, List.length_nil] at this
        omega
    · split at h
      · have := matchP_len L _ _ h; omega
      · cases h
theorem matchA_len {a : Atom} {f : Fact} {k k' : Kn} (h : matchA a f k = some k') : k'.length ≤ k.length + a.ps.length := by
  unfold matchA at h
  split at h
  · have := matchP_len _ _ _ h
    rw [List.length_zip] at this
    omega
  · cases h
def m_Closing_init (w : World) (K : PySem.W.Frag) : M := fun ds S Q E => ∃ c rs, ds = [.ref c, rulesD rs] ∧ S c = some (.ins (ClC K) []) ∧ Fits rs ∧
  ∀ p ws S', S p = none → Cl w K c p (rulesD rs) (zeroD ws) 0 [] S' → Mvd c S S' → ws.Nodup → (∀ y, y ∈ ws ↔ y ∈ wordsOf rs) → Q .non S'
theorem d_Closing___init__ (Z : Zf P w K mg base) : Ma P w K mg base 4 "Closing" (ClC K) ["self", "rules"] (m_Closing_init w K) := by
  obtain ⟨fd, F, hb⟩ := Z.F_Closing___init__
  refine ⟨_, fd, df_of (k := 3) F sc_Closing___init__ (fun cdv A outer s H E F0 E' B => (dss_cons (ds_putFK K rfl (dv 0) (dv 1))
    (dss_cons (ds_putFK K rfl (dv 0) (de_nnew (w := w) rfl))
    (dss_cons (ds_putFK K rfl (dv 0) de_int)
    (dss_one (ds_putFK K rfl (dv 0) (de_ca (d_check_rules Z) (B.mono (by omega)) rfl (da_cons (dv 1) da_nil)))))))) ?_, Z.k_Closing, Z.g_Closing, hb⟩
  rintro ds S Q E hl ⟨c, rs, rfl, ho, hf, hq⟩
  rw [show startD N_Closing___init__ [.ref c, rulesD rs] = [some (.ref c), some (rulesD rs)] from rfl]
  clear hl
  have p1 := pl_rules Z
  have p2 := pl_found Z
  have p3 := pl_tries Z
  have p4 := pl_layers Z
  walk_at "nd"
  refine ⟨by decide, fun p hp => ?_⟩
  have hpc : p ≠ c := fun e => by rw [e, sup_same] at hp; cases hp
  have hcp : c ≠ p := fun e => hpc e.symm
  have hp0 : S p = none := by rw [sup_ne hpc] at hp; exact hp
  rw [sup_ne hcp, sup_same]
  refine ⟨_, _, rfl, of_eq_true p2, show 1 < 1000 by omega, of_eq_true p3, show 2 < 1000 by omega, rs, rfl, hf, fun ws S' hs h1 h2 => ?_⟩
  have hc := hs c _ sup_same
  show ∃ x x_1, S' c = some (DO.ins x x_1) ∧ _
  rw [hc]
  refine ⟨_, _, rfl, of_eq_true p4, show 3 < 1000 by omega, fini (hq p ws _ hp0 ⟨sup_same, ?_⟩ (fun a o ha ho2 => ?_) h1 h2)⟩
  · rw [sup_ne hpc]
    exact hs p _ (by rw [sup_ne hpc, sup_ne hpc, sup_same]; rfl)
  · rw [sup_ne ha]
    refine hs a o ?_
    have hap : a ≠ p := fun e => by rw [e, hp0] at ho2; cases ho2
    rw [sup_ne ha, sup_ne ha, sup_ne hap, sup_ne ha]
    exact ho2
theorem df_vac {k : Nat} {f : Addr} {fd : FuncData} {ps : List Str} {m : M} (h : ∀ ds S Q E, ¬ m ds S Q E) : DF P w K mg base k f fd ps m :=
  ⟨fun vs H Q E ⟨F, S, ds, Q', E', _, _, _, hm, _⟩ => (h _ _ _ _ hm).elim, fun _ _ _ _ _ _ _ _ _ _ _ _ _ ⟨F, S, ds, Q', E', _, _, _, hm, _⟩ => (h _ _ _ _ hm).elim⟩
theorem lcN_places {ρ0 : Rho} (x0 x1 x2 x3 x4 x8 x9 x10 x11 : Option D) {Q : List D → Store → Prop} : ∀ (L : List Atom) (i : Nat) (acc : List D) (S : Store) (y5 y6 y7 : Option D), acc.length + L.length ≤ 1000 → Q (acc ++ (List.range' i L.length).map nat) S →
    lcN 5 [6, 7] (tdB (tdV 6)) (tdV 5) [x0, x1, x2, x3, x4, y5, y6, y7, x8, x9, x10, x11] (enF i (L.map fun a => D.tup [.bl true, a.d])) acc S Q
  | [], i, acc, S, _, _, _, _, q => by
    simp only [List.length_nil, List.range'_zero, List.map_nil, List.append_nil] at q
    exact q
  | a :: L, i, acc, S, y5, y6, y7, hl, q => by
    rw [List.length_cons] at hl
    refine ⟨_, _, rfl, rfl, ⟨_, rfl, true, rfl, ?_⟩⟩
    refine iteT ⟨_, rfl, Nat.lt_of_lt_of_le (show acc.length < 100001 by omega) (sz5 (by omega)), ?_⟩
    refine lcN_places (ρ0 := ρ0) x0 x1 x2 x3 x4 x8 x9 x10 x11 L (i + 1) _ S y5 y6 y7 (by rw [List.length_append]; show acc.length + 1 + _ ≤ _; omega) ?_
    rw [List.append_assoc]
    exact q
def m_ways (w : World) (K : PySem.W.Frag) (n : Nat) : M := fun ds S Q E => ∃ c p r ly t es b k, ds = [.ref c, bodyD b, knD k] ∧ b.length < n ∧ Cl w K c p r ly t es S ∧ t ≤ 100000 ∧ es.length ≤ 100000 ∧ BodyOk b ∧ k.length + 10 * b.length ≤ 200 ∧
  (∀ S', E ⟨TwC K, []⟩ S') ∧ ∀ (ws : List Kn) t' S', (∀ k', k' ∈ ws ↔ Way (facts es) b k k') → ws.length + t ≤ t' + 1 → t' ≤ 100000 → Cl w K c p r ly t' es S' → Mvd c S S' → Q (.lst (ws.map knD)) S'
theorem vac_ways (Z : Zf P w K mg base) (k : Nat) : Me P w K mg base k (ClC K) "ways" ["self", "body", "known"] (m_ways w K 0) := by
  obtain ⟨fd, F, hb⟩ := Z.F_Closing_ways
  exact ⟨⟨_, fd, df_vac fun _ _ _ _ ⟨_, _, _, _, _, _, _, _, _, h, _⟩ => by omega, Z.m_Closing_ways, hb⟩, Z.c_Closing⟩
theorem d_ways (Z : Zf P w K mg base) (n : Nat) (G : Me P w K mg base (2 + n) (ClC K) "ways" ["self", "body", "known"] (m_ways w K n)) : Me P w K mg base (2 + n + 1) (ClC K) "ways" ["self", "body", "known"] (m_ways w K (n + 1)) := by
  obtain ⟨fd, F, hb⟩ := Z.F_Closing_ways
  refine ⟨⟨_, fd, df_of (k := 2 + n) F sc_Closing_ways (fun cdv A outer s H E F0 E' B => (dss_cons (ds_if (dt_not (dt_truT (dv 1))) (dss_one (ds_ret (de_lst (da_cons (dv 2) da_nil)))) dss_nil)
    (dss_cons (ds_set 3 nd_Closing_ways (de_box da_nil))
    (dss_cons (ds_setLcN 4 5 [6, 7] rfl rfl nd_Closing_ways rfl rfl (sw_true rfl rfl rfl (by decide +kernel)) (di_en rfl Z.f_enumerate (da_cons (dv 1) da_nil)) (blkOk_by (own := [("place", 5), ("flag", 6), ("_", 7)]) (N := N_Closing_ways) (sc := defScope st_Closing_ways) (by decide +kernel)) (fun _ _ _ _ _ => (pg_tup rfl (pgs_cons (pg_name (i := 5) nd_Closing_ways rfl (Or.inl rfl)) (pgs_cons (pg_tup rfl (pgs_cons (pg_name (i := 6) nd_Closing_ways rfl (Or.inl rfl)) (pgs_cons (pg_name (i := 7) nd_Closing_ways rfl (Or.inl rfl)) pgs_nil))) pgs_nil)))) (fun _ _ _ _ _ => (dts_one (dt_val (dv 6)))) (fun _ _ _ _ _ => (dv 5)))
    (dss_cons (ds_set 5 nd_Closing_ways (de_if (dt_tru (dv 4)) (de_ix (dv 4) de_int) de_int))
    (dss_cons (ds_asg (de_ix (dv 1) (dv 5)) (dg_tup (n := 2) rfl (dgs_cons (dg_name 6 nd_Closing_ways) (dgs_cons (dg_name 8 nd_Closing_ways) dgs_nil))))
    (dss_cons (ds_set 9 nd_Closing_ways (de_op od_addT (de_sl (dv 1) do_none (do_some (dv 5))) (de_sl (dv 1) (do_some (de_op od_addT (dv 5) de_int)) do_none)))
    (dss_cons (ds_if (dt_not (dt_val (dv 6))) (dss_one ds_never) dss_nil)
    (dss_cons (ds_for (passes_of rfl) rfl (di_lst (de_cB (oc_sortND (w := w) rfl (hu65 B.room) rfl) rfl Z.f_sorted bb_sorted (da_cons (de_fldK K rfl (dv 0)) da_nil))) (dg_name 10 nd_Closing_ways) (dss_cons (ds_set 11 nd_Closing_ways (de_ca (d_matched Z) (B.mono (by omega)) rfl (da_cons (dv 8) (da_cons (dv 10) (da_cons (dv 2) da_nil)))))
    (dss_one (ds_if (dt_notN (dv 11)) (dss_cons (ds_augFK K rfl (dv 0) de_int in_add rd_add)
    (dss_cons (ds_if (dt_cmp (od_ord op_gt) (de_fldK K rfl (dv 0)) (de_gint Z.i_MOST_TRIES rfl) rfl) (dss_one (ds_raise0 Z.x_TooWide B rfl Z.g_TooWide)) dss_nil)
    (dss_one (ds_expr (de_ext (dv 3) (de_me (dv 0) G (B.mono (by omega)) (da_cons (dv 9) (da_cons (dv 11) da_nil)))))))) dss_nil))))
    (dss_one (ds_ret (dz 3)))))))))))) ?_, Z.m_Closing_ways, hb⟩, Z.c_Closing⟩
  rintro ds S Q E hl ⟨c, p, r, ly, t, es, b, k, rfl, hn, hc, ht, he, hb, hk, hE, hq⟩
  rw [show startD N_Closing_ways [.ref c, bodyD b, knD k] = [some (.ref c), some (bodyD b), some (knD k), none, none, none, none, none, none, none, none, none] from rfl]
  clear hl
  have p2 := pl_found Z
  have p3 := pl_tries Z
  cases b with
  | nil =>
    unfold bodyD
    rw [List.map_nil]
    refine ifS_cut true (fun Q' q => ?_) (fun _ => ?_) (fun z => by cases z)
    · walk_at "nd"
      exact ⟨[], rfl, q⟩
    · walk_at "nd"
      exact fini (hq [k] t S (fun k' => List.mem_singleton) (show 1 + t ≤ t + 1 by omega) ht hc (Mvd.refl c S))
  | cons a b =>
    have hb1 := hb.n
    rw [List.length_cons] at hb1 hk hn
    refine seq_cut (fun ρ S1 => ρ = [some (.ref c), some (bodyD (a :: b)), some (knD k), none, none, none, none, none, none, none, none, none] ∧ S1 = S) (fun Rest hR => ?_) ?_
    · refine ifS_cut false (fun Q' q => ?_) (fun z => by cases z) (fun _ => ?_)
      · unfold bodyD
        walk_at "nd"
        exact ⟨_, rfl, q⟩
      · exact hR _ _ ⟨rfl, rfl⟩
    rintro ρ S1 ⟨rfl, rfl⟩
    refine seq_cut (fun ρ S1' => ∃ q, S1 q = none ∧ ρ = [some (.ref c), some (bodyD (a :: b)), some (knD k), some (.ref q), none, none, none, none, none, none, none, none] ∧ S1' = sup S1 q (.lst [])) (fun Rest hR => ?_) ?_
    · walk_at "nd"
      exact fun q hq => hR _ _ ⟨q, hq, rfl, rfl⟩
    rintro ρ S1' ⟨q, hq0, rfl, rfl⟩
    refine seq_cut (fun ρ S2 => ρ = [some (.ref c), some (bodyD (a :: b)), some (knD k), some (.ref q), some (.lst (nat 0 :: (List.range' 1 b.length).map nat)), none, none, none, none, none, none, none] ∧ S2 = sup S1 q (.lst [])) (fun Rest hR => ?_) ?_
    · unfold bodyD
      walk_at "nd"
      refine ⟨_, rfl, ?_⟩
      refine lcN_places (ρ0 := []) _ _ _ _ _ _ _ _ _ (a :: b) 0 [] _ _ _ _ (by rw [List.length_cons]; show 0 + _ ≤ _; omega) ?_
      exact hR _ _ ⟨rfl, rfl⟩
    rintro ρ S2 ⟨rfl, rfl⟩
    refine seq_cut (fun ρ S2 => ρ = [some (.ref c), some (bodyD (a :: b)), some (knD k), some (.ref q), some (.lst (nat 0 :: (List.range' 1 b.length).map nat)), some (nat 0), none, none, none, none, none, none] ∧ S2 = sup S1 q (.lst [])) (fun Rest hR => ?_) ?_
    · walk_at "nd"
      refine ⟨_, rfl, ?_⟩
      exact iteT True.intro
    rintro ρ S2 ⟨rfl, rfl⟩
    generalize D.lst (nat 0 :: (List.range' 1 b.length).map nat) = nl
    refine seq_cut (fun ρ S2 => ρ = [some (.ref c), some (bodyD (a :: b)), some (knD k), some (.ref q), some nl, some (nat 0), some (.bl true), none, some a.d, none, none, none] ∧ S2 = sup S1 q (.lst [])) (fun Rest hR => ?_) ?_
    · unfold bodyD
      rw [List.map_cons]
      walk_at "nd"
      exact ⟨_, rfl, rfl, _, _, rfl, _, _, rfl, rfl, hR _ _ ⟨rfl, rfl⟩⟩
    rintro ρ S2 ⟨rfl, rfl⟩
    refine seq_cut (fun ρ S2 => ρ = [some (.ref c), some (bodyD (a :: b)), some (knD k), some (.ref q), some nl, some (nat 0), some (.bl true), none, some a.d, some (bodyD b), none, none] ∧ S2 = sup S1 q (.lst [])) (fun Rest hR => ?_) ?_
    · unfold bodyD
      rw [List.map_cons]
      walk_at "nd"
      have e0 : ∀ L : List D, cutL L none (some ((0 : Nat) : Int)) = [] := fun L => by rw [cutL_to]; rfl
      have e1 : ∀ (x : D) (L : List D), cutL (x :: L) (some ((0 + 1 : Nat) : Int)) none = L := fun x L => cutL_n 1
      have e2 : ∀ L : List D, HT.sIx L.length L.length (some ((0 : Nat) : Int)) = 0 := fun L => by rw [HT.sIx_nat]; exact Nat.zero_min _
      have e3 : ∀ (x : D) (L : List D), HT.sIx (x :: L).length 0 (some ((0 + 1 : Nat) : Int)) = 1 := fun x L => by
        rw [HT.sIx_nat, List.length_cons]
        omega
      rw [e0, e1, e2, e3]
      refine ⟨fun z => ?_, fun z => (by cases z.1), ?_, hR _ _ ⟨rfl, rfl⟩⟩
      · have := z.2
        rw [List.length_cons] at this
        omega
      · rw [List.length_nil, Nat.zero_add, List.length_map]
        exact Nat.le_trans (show b.length ≤ 100000 by omega) (sz5 (by decide))
    rintro ρ S2 ⟨rfl, rfl⟩
    refine seq_cut (fun ρ S2 => ρ = [some (.ref c), some (bodyD (a :: b)), some (knD k), some (.ref q), some nl, some (nat 0), some (.bl true), none, some a.d, some (bodyD b), none, none] ∧ S2 = sup S1 q (.lst [])) (fun Rest hR => ?_) ?_
    · refine ifS_cut false (fun Q' q => ?_) (fun z => by cases z) (fun _ => ?_)
      · walk_at "nd"
      · exact hR _ _ ⟨rfl, rfl⟩
    rintro ρ S2 ⟨rfl, rfl⟩
    have hqc : q ≠ c := fun e => by rw [e, hc.o] at hq0; cases hq0
    have hqp : q ≠ p := fun e => by rw [e, hc.f] at hq0; cases hq0
    refine seq_cut (fun ρ S2 => ∃ (x10 x11 : Option D) (acc : List Kn) (t' : Nat), ρ = [some (.ref c), some (bodyD (a :: b)), some (knD k), some (.ref q), some nl, some (nat 0), some (.bl true), none, some a.d, some (bodyD b), x10, x11] ∧
        (∀ k', k' ∈ acc ↔ Way (facts es) (a :: b) k k') ∧ acc.length + t ≤ t' ∧ t' ≤ 100000 ∧ Cl w K c p r ly t' es S2 ∧ Mvd c S1 S2 ∧ S2 q = some (.lst (acc.map knD))) (fun Rest hR => ?_) ?_
    · walk_at "nd"
      rw [sup_ne (fun e => hqc e.symm), hc.o]
      refine ⟨_, _, rfl, of_eq_true p2, _, lk_found, p, rfl, kvF es, ?_, ?_, fun es' pe => ?_⟩
      · rw [sup_ne (fun e => hqp e.symm)]
        exact hc.f
      · rw [kvF_facts]
        exact fact_sort (by unfold facts; rw [List.length_map]; omega)
      · rw [kvF_facts] at pe
        obtain ⟨fs, pf, rfl⟩ := perm_map pe
        refine for_ind (fun ds ρ S' => ∃ (L : List Fact) (x10 x11 : Option D) (acc : List Kn) (t' : Nat), ds = L.map Fact.d ∧ ρ = [some (.ref c), some (bodyD (a :: b)), some (knD k), some (.ref q), some nl, some (nat 0), some (.bl true), none, some a.d, some (bodyD b), x10, x11] ∧
          (∀ k', (k' ∈ acc ∨ ∃ f ∈ L, ∃ k1, matchA a f k = some k1 ∧ Way (facts es) b k1 k') ↔ Way (facts es) (a :: b) k k') ∧ acc.length + t ≤ t' ∧ t' ≤ 100000 ∧ Cl w K c p r ly t' es S' ∧ Mvd c S1 S' ∧ S' q = some (.lst (acc.map knD))) ?_ ?_ _ _ _
          ⟨fs, none, none, [], t, rfl, rfl, fun k' => ⟨fun z => ?_, fun z => ?_⟩, by simp, ht, hc.sub (Sub.sup hq0), Mvd.sub (Sub.sup hq0), sup_same⟩
        · rintro ρ S' ⟨L, x10, x11, acc, t', e0, rfl, h1, h2, h3, h4, h5, h6⟩
          cases L with
          | cons f L => cases e0
          | nil =>
            refine hR _ _ ⟨x10, x11, acc, t', rfl, fun k' => ⟨fun z => (h1 k').mp (.inl z), fun z => ?_⟩, h2, h3, h4, h5, h6⟩
            rcases (h1 k').mpr z with z | ⟨f, hf, _⟩
            · exact z
            · cases hf
        · rintro d ds ρ S' W hW ⟨L, x10, x11, acc, t', e0, rfl, h1, h2, h3, h4, h5, h6⟩
          cases L with
          | nil => cases e0
          | cons f L =>
            injection e0 with e0 e1
            subst e0 e1
            refine seq_cut (fun ρ S2 => ρ = [some (.ref c), some (bodyD (a :: b)), some (knD k), some (.ref q), some nl, some (nat 0), some (.bl true), none, some a.d, some (bodyD b), some f.d, some (oKn (matchA a f k))] ∧ Sub S' S2) (fun Rest2 hR2 => ?_) ?_
            · have ha := hb.p a List.mem_cons_self
              walk_at "nd"
              exact ⟨a, f, k, rfl, by omega, hb.a a List.mem_cons_self, fun S2 hs => hR2 _ _ ⟨rfl, hs⟩⟩
            rintro ρ S2 ⟨rfl, hs⟩
            have h4' := h4.sub hs
            have h5' := h5.trans (Mvd.sub hs)
            have h6' := hs _ _ h6
            clear h4 h5 h6 hs hR
            cases hm : matchA a f k with
            | none =>
              refine ifS_cut false (fun Q' q => ?_) (fun z => by cases z) (fun _ => ?_)
              · walk_at "nd"
                exact q
              · refine hW _ _ ⟨L, _, _, acc, t', rfl, rfl, fun k' => ?_, h2, h3, h4', h5', h6'⟩
                rw [← h1 k']
                constructor
                · rintro (z | ⟨g, hg, z⟩)
                  · exact .inl z
                  · exact .inr ⟨g, List.mem_cons_of_mem _ hg, z⟩
                · rintro (z | ⟨g, hg, k1, z, z2⟩)
                  · exact .inl z
                  · rcases List.mem_cons.mp hg with rfl | hg
                    · rw [hm] at z; cases z
                    · exact .inr ⟨g, hg, k1, z, z2⟩
            | some k1 =>
              have hk1 := matchA_len hm
              have ha := hb.p a List.mem_cons_self
              refine ifS_cut true (fun Q' q => ?_) (fun _ => ?_) (fun z => by cases z)
              · walk_at "nd"
                exact q
              · refine seq_cut (fun ρ S3 => ρ = [some (.ref c), some (bodyD (a :: b)), some (knD k), some (.ref q), some nl, some (nat 0), some (.bl true), none, some a.d, some (bodyD b), some f.d, some (knD k1)] ∧ S3 = sup S2 c (clO K r p (t' + 1) ly)) (fun Rest2 hR2 => ?_) ?_
                · exact ⟨_, rfl, c, _, _, _, rfl, h4'.o, of_eq_true p3, lk_tries, _, _, rfl, h4'.o, of_eq_true clF_len, hR2 _ _ ⟨rfl, rfl⟩⟩
                rintro ρ S3 ⟨rfl, rfl⟩
                have h7 : Cl w K c p r ly (t' + 1) es (sup S2 c (clO K r p (t' + 1) ly)) := h4'.put
                have h8 : Mvd c S1 (sup S2 c (clO K r p (t' + 1) ly)) := h5'.trans (Mvd.put _ _ _)
                have h9 : (sup S2 c (clO K r p (t' + 1) ly)) q = some (.lst (acc.map knD)) := by rw [sup_ne hqc]; exact h6'
                generalize sup S2 c (clO K r p (t' + 1) ly) = S3 at h7 h8 h9 ⊢
                clear h4' h5' h6'
                refine seq_cut (fun ρ S4 => ρ = [some (.ref c), some (bodyD (a :: b)), some (knD k), some (.ref q), some nl, some (nat 0), some (.bl true), none, some a.d, some (bodyD b), some f.d, some (knD k1)] ∧ S4 = S3 ∧ t' + 1 ≤ 100000) (fun Rest2 hR2 => ?_) ?_
                · refine ifS_cut (decide (100000 < t' + 1)) (fun Q' q => ?_) (fun z => ?_) (fun z => ?_)
                  · refine ⟨_, rfl, c, _, _, _, rfl, h7.o, of_eq_true p3, lk_tries, ?_⟩
                    refine ⟨decide (100000 < t' + 1), ?_, q⟩
                    show D.bl (decide ((100000 : Int) < ((t' + 1 : Nat) : Int))) = _
                    congr 1
                    exact decide_eq_decide.mpr (by omega)
                  · exact hE _
                  · rw [decide_eq_false_iff_not] at z
                    exact hR2 _ _ ⟨rfl, rfl, by omega⟩
                rintro ρ S4 ⟨rfl, rfl, h10⟩
                refine ⟨_, rfl, ⟨q, _, rfl, h9⟩, _, rfl, c, _, rfl, h7.o, lm_ways, _, rfl, _, rfl, rfl, c, p, r, ly, t' + 1, es, b, k1, rfl, by omega, h7, h10, he, hb.tl, by omega, hE, fun ws t2 S5 g1 g2 g3 g4 g5 => ?_⟩
                have g6 := g5 q _ hqc h9
                refine ⟨q, _, _, rfl, g6, rfl, ?_, ?_⟩
                · rw [List.length_map, List.length_map]
                  exact Nat.le_trans (show acc.length + ws.length ≤ 100000 by omega) (sz5 (by decide))
                · rw [← List.map_append]
                  refine hW _ _ ⟨L, _, _, acc ++ ws, t2, rfl, rfl, fun k' => ?_, by rw [List.length_append]; omega, g3, ⟨?_, ?_⟩, ?_, sup_same⟩
                  · rw [← h1 k', List.mem_append]
                    constructor
                    · rintro ((z | z) | ⟨g, hg, z⟩)
                      · exact .inl z
                      · exact .inr ⟨f, List.mem_cons_self, k1, hm, (g1 k').mp z⟩
                      · exact .inr ⟨g, List.mem_cons_of_mem _ hg, z⟩
                    · rintro (z | ⟨g, hg, k2, z, z2⟩)
                      · exact .inl (.inl z)
                      · rcases List.mem_cons.mp hg with rfl | hg
                        · rw [hm] at z
                          cases z
                          exact .inl (.inr ((g1 k').mpr z2))
                        · exact .inr ⟨g, hg, k2, z, z2⟩
                  · rw [sup_ne (fun e => hqc e.symm)]
                    exact g4.o
                  · rw [sup_ne (fun e => hqp e.symm)]
                    exact g4.f
                  · intro a' o ha2 ho
                    rw [sup_ne (fun e => by rw [e, hq0] at ho; cases ho)]
                    exact (h8.trans g5) a' o ha2 ho
        · rcases z with z | ⟨f, hf, z⟩
          · cases z
          · exact ⟨f, pf.mem_iff.mp hf, z⟩
        · obtain ⟨f, hf, z⟩ := z
          exact .inr ⟨f, pf.mem_iff.mpr hf, z⟩
    rintro ρ S2 ⟨x10, x11, acc, t', rfl, h1, h2, h3, h4, h5, h6⟩
    walk_at "nd"
    refine ⟨_, rfl, fini (hq acc t' _ h1 (by omega) h3 ⟨?_, ?_⟩ (fun a' o ha ho => ?_))⟩
    · unfold sdel
      rw [if_neg (fun e => hqc e.symm)]
      exact h4.o
    · unfold sdel
      rw [if_neg (fun e => hqp e.symm)]
      exact h4.f
    · unfold sdel
      rw [if_neg (fun e => by rw [e, hq0] at ho; cases ho)]
      exact h5 a' o ha ho
theorem ways_all (Z : Zf P w K mg base) : ∀ n : Nat, Me P w K mg base (2 + n) (ClC K) "ways" ["self", "body", "known"] (m_ways w K n)
  | 0 => vac_ways Z _
  | n + 1 => d_ways Z n (ways_all Z n)
end K07
namespace K07
open PySem PySem.Spec L2 DL
local macro_rules | `(tactic| walk_at "nd") => `(tactic| simp only [icO, isN0, gStr, tdiE, tdiZT, gSortND, gSortL, gSortDX, tdListVals, tdSortItems, tdiVals, gDictC, tdLck, tdSetd, tdExt, gIntT, tdTruT, tdRaise0, gTupP, tdPt, gDictT, tdLc2T, tdLcN, gLenN, tdValsI, tdSortSet, gCatB, gEq_bb, tdLcB, tdDNew, tdNNew, tdNGet, tdNPut, tdFGet, tdiF, tdDctF, tdDc, tdDcN, tdTru, tdDAugG, tdDictZ, tdCallV, tdLc2, ln_4, ln_5, ln_6, fmod_2, fdiv_2, gAddT, tdIdx, gdUnl, tdiD, gSortI, gMin2, gMax2, gTuple, gDictP, tdLcT, lcT, setD, unsetD, tdKGet, tdKGet2, tdGet2, tdPop, tdSeq, tdAsg, tdV, gdName, tdAnd, tdOr, tdNot, tdB, tdOp, tdCB, tdCons, tdNil, tdC, tdAug, tdSl, tdP, tdRet, tdTup, tdIf, tdIfS, gOrd, gI0, gI, gLen, gIx, gAdd, gInt, vw, ixP, gSl, tdDrop, tdRetN, tdNext, gIn_sc, gIn_ts, gIn_ls, gIn_t2, gIn_l2, gIn_l4, tdApp, sl_0, sl_1, sl_2, sl_3, sl_4, sl_5, ff, tt', true_and, id,
  eqS, tdFor, tdiT, tdiL, tdiR, tdXp, gList, gEq_ns, tdJoin, gJoin, vwS, gMul, gMod, gDiv, gPow, gI, tdAugS, gdSub, gSet, ixN_2, ixN_3, atI_3, atI_4, gEq_ss, gEq_ii, tdDict, tdPairs, tdNeg, Option.isNone_none, Option.isNone_some, gIsi, tdGet, tdDPut, tdDAug, tdIsN, tdNotN, DO.dic.injEq, Option.isNone_none, Option.isNone_some, gIn_l2, gIn_t2, Option.getD_some, tdLc, gMax, tdNoP, forR, tdRaise, tdCall, tdNotV, tdAndV, tdOrV, tdBox, tdZ, gdTup, gdCons, gdNil, tdBreak, tdCont, tdYes, icast, icast1, icast2, icast3, tdLst, gIn_l4, icastL, icastE, icastZ, ln_0, ln_1, ln_2, ln_3,
  List.getElem?_cons_zero, List.getElem?_cons_succ, List.set_cons_zero, List.set_cons_succ, Option.some.injEq, exists_eq_left', exists_eq_left, D.bl.injEq, decide_eq_true_eq,
  tdFldC, tdMeth, tdMake, tdPutF, tdAugF, D.ref.injEq, DO.ins.injEq, and_assoc, DL.gSub, D.int.injEq, D.str.injEq, sup_same, eq_self, not_true_eq_false, not_false_eq_true, Bool.false_eq_true, Bool.not_eq_true, decide_not, atIn, atI_0, atI_1, atI_2, List.getElem?_map, Option.map_some, Option.map_none, decide_true, decide_false, Bool.not_true, Bool.not_false, if_true, if_false, lm_0, lm_1, lm_2, List.length_map, exists_and_left, *])
variable {P : Program} {w : World} {K : PySem.W.Frag} {mg : Str → Option Value} {base : Heap}
theorem de_valsIK {X : Cx} {F0 : Ent} {e : Expr} {i v c : Nat} {f : Str} (K0 : PySem.W.Frag) (hK : X.K = K0) (h : DE X F0 e (tdValsI w X.K i f v c)) : DE X F0 e (tdValsI w K0 i f v c) := by
  subst hK
  exact h
theorem matchP_sub : ∀ (L : List (Part × Tx)) (k k' : Kn), matchP L k = some k' → ∀ x v, k.lookup x = some v → k'.lookup x = some v
  | [], k, k', h, x, v, hx => by cases h; exact hx
  | (p, t) :: L, k, k', h, x, v, hx => by
    unfold matchP at h
    split at h
    · split at h
      · split at h
        · exact matchP_sub L _ _ h x v hx
        · cases h
      · exact matchP_sub L _ _ h x v (by rw [List.lookup_append, hx]; rfl)
    · split at h
      · exact matchP_sub L _ _ h x v hx
      · cases h
theorem matchP_get : ∀ (L : List (Part × Tx)) (k k' : Kn), matchP L k = some k' → ∀ q ∈ L, q.1.1 = true → k'.lookup q.1.2 = some q.2
  | [], k, k', h, q, hq, _ => by cases hq
  | (p, t) :: L, k, k', h, q, hq, hx => by
    unfold matchP at h
    rcases List.mem_cons.mp hq with rfl | hq
    · rw [if_pos hx] at h
      split at h
      · rename_i v hv
        split at h
        · rename_i e
          rw [← e]
          exact matchP_sub L _ _ h _ _ hv
        · cases h
      · rename_i hn
        refine matchP_sub L _ _ h _ _ ?_
        rw [List.lookup_append, hn]
        simp
    · split at h
      · split at h
        · split at h
          · exact matchP_get L _ _ h q hq hx
          · cases h
        · exact matchP_get L _ _ h q hq hx
      · split at h
        · exact matchP_get L _ _ h q hq hx
        · cases h
theorem way_sub {fs : List Fact} : ∀ (b : List Atom) (k k' : Kn), Way fs b k k' → ∀ x v, k.lookup x = some v → k'.lookup x = some v
  | [], k, k', h, x, v, hx => by rw [show k' = k from h]; exact hx
  | a :: b, k, k', ⟨f, hf, k1, h1, h2⟩, x, v, hx => by
    unfold matchA at h1
    split at h1
    · exact way_sub b _ _ h2 x v (matchP_sub _ _ _ h1 x v hx)
    · cases h1
theorem way_get {fs : List Fact} : ∀ (b : List Atom) (k k' : Kn), (∀ a ∈ b, ∀ q ∈ a.ps, q.1 = true) → Way fs b k k' → ∀ x ∈ namesOf b, ∃ v, k'.lookup x = some v
  | [], k, k', _, h, x, hx => by cases hx
  | a :: b, k, k', hb, ⟨f, hf, k1, h1, h2⟩, x, hx => by
    unfold namesOf at hx
    rw [List.flatMap_cons, List.mem_append] at hx
    rcases hx with hx | hx
    · unfold matchA at h1
      split at h1
      · rename_i hl
        unfold Atom.names at hx
        obtain ⟨p, hp, rfl⟩ := List.mem_map.mp hx
        obtain ⟨hp1, hp2⟩ := List.mem_filter.mp hp
        obtain ⟨i, hi, rfl⟩ := List.mem_iff_getElem.mp hp1
        have := matchP_get _ _ _ h1 (a.ps[i], f.ts[i]'(by omega)) (List.mem_iff_getElem.mpr ⟨i, by rw [List.length_zip]; omega, List.getElem_zip⟩) hp2
        exact ⟨_, way_sub b _ _ h2 _ _ this⟩
      · cases h1
    · exact way_get b _ _ (fun a ha => hb a (List.mem_cons_of_mem _ ha)) h2 x hx
theorem way_len {fs : List Fact} : ∀ (b : List Atom) (k k' : Kn), (∀ a ∈ b, a.ps.length ≤ 10) → Way fs b k k' → k'.length ≤ k.length + 10 * b.length
  | [], k, k', _, h => by rw [show k' = k from h]; omega
  | a :: b, k, k', hb, ⟨f, hf, k1, h1, h2⟩ => by
    have := matchA_len h1
    have := way_len b _ _ (fun a ha => hb a (List.mem_cons_of_mem _ ha)) h2
    have := hb a List.mem_cons_self
    rw [List.length_cons]
    omega
theorem way_mono {fs gs : List Fact} (hs : ∀ f ∈ fs, f ∈ gs) : ∀ (b : List Atom) (k k' : Kn), Way fs b k k' → Way gs b k k'
  | [], k, k', h => h
  | a :: b, k, k', ⟨f, hf, k1, h1, h2⟩ => ⟨f, hs f hf, k1, h1, way_mono hs b k1 k' h2⟩
theorem way_full {rs : Rules} (hf : Fits rs) {q : Tx × Rule} (hq : q ∈ rs) {fs : List Fact} {k : Kn} (h : Way fs q.2.b [] k) : Full q.2.h k := fun p hp h1 =>
  way_get _ _ _ (hf.a q hq) h _ (hf.s q hq p.2 (List.mem_map.mpr ⟨p, List.mem_filter.mpr ⟨hp, h1⟩, rfl⟩))
/-- T keeps the rules -/
def Keeps (rs : Rules) (T : Fact → Prop) : Prop := ∀ p ∈ rs, ∀ gs : List Fact, (∀ g ∈ gs, T g) → ∀ k, Way gs p.2.b [] k → T (fillA p.2.h k)
def Sound (rs : Rules) (fs : List Fact) : Prop := ∀ T, Keeps rs T → ∀ f ∈ fs, T f
def Closed (rs : Rules) (fs : List Fact) : Prop := ∀ p ∈ rs, ∀ k, Way fs p.2.b [] k → fillA p.2.h k ∈ fs
def ValD (v : D) : Prop := ∃ x y, ∃ r : Int, v = .tup [x, y, .int r]
theorem getF_map {α : Type} (k : α → Tx) (g : α → D) : ∀ (L : List α) {x : α}, x ∈ L → (L.map k).Nodup → getF (L.map fun p => (Sum.inr (k p) : DK)) (L.map g) (.inr (k x)) = some (g x)
  | y :: L, x, h, nd => by
    rw [List.map_cons, List.nodup_cons] at nd
    show (if (Sum.inr (k y) : DK) = .inr (k x) then some (g y) else getF (L.map fun p => (Sum.inr (k p) : DK)) (L.map g) (.inr (k x))) = _
    rcases List.mem_cons.mp h with rfl | h
    · rw [if_pos rfl]
    · rw [if_neg fun z => nd.1 (by rw [Sum.inr.inj z]; exact List.mem_map_of_mem h)]
      exact getF_map k g L h nd.2
theorem maxL_zero : ∀ n : Nat, maxL (0 :: List.replicate n 0) = 0
  | 0 => rfl
  | n + 1 => by
    show max 0 (maxL (0 :: List.replicate n 0)) = 0
    rw [maxL_zero n]
    rfl
theorem zero_ints (ws : List Tx) : [D.int 0] ++ ws.map (fun _ => D.int 0) = (0 :: List.replicate ws.length 0).map D.int := by
  rw [List.map_cons, List.map_replicate, List.map_const']
  rfl
def prKn (k : Kn) : List D := k.map fun p => .tup [.str p.1, .str p.2]
theorem it_kn : ∀ k : Kn, itD (k.map fun p => Sum.inr p.1) (k.map fun p => .str p.2) = prKn k
  | [] => rfl
  | p :: k => by
    show D.tup [.str p.1, .str p.2] :: itD (k.map fun p => Sum.inr p.1) (k.map fun p => .str p.2) = _
    rw [it_kn k]
    rfl
theorem kn_sort {k : Kn} (h : k.length ≤ 100000) : CanSort (prKn k) where
  pure := by
    clear h
    induction k with
    | nil => rfl
    | cons p k ih =>
      unfold prKn at ih ⊢
      rw [List.map_cons]
      unfold D.pures
      rw [ih]
      rfl
  alike := fun d hd e he => by
    obtain ⟨p, _, rfl⟩ := List.mem_map.mp hd
    obtain ⟨q, _, rfl⟩ := List.mem_map.mp he
    rfl
  sortable := .inl fun d hd => by
    unfold prKn at hd
    rw [List.map_map] at hd
    obtain ⟨f, _, rfl⟩ := List.mem_map.mp hd
    exact ⟨_, _, rfl⟩
  deep := fun d hd => by
    obtain ⟨f, _, rfl⟩ := List.mem_map.mp hd
    simp only [D.data, D.datas, PyData.depth, PyData.depthAll]
    decide
  len := by unfold prKn; rw [List.length_map]; exact Nat.le_trans h (sz5 (by decide))
def Mv2 (c p : Addr) (S S' : Store) : Prop := ∀ a o, a ≠ c → a ≠ p → S a = some o → S' a = some o
theorem Mv2.trans {c p : Addr} {A B C : Store} (h : Mv2 c p A B) (g : Mv2 c p B C) : Mv2 c p A C := fun a o n m e => g a o n m (h a o n m e)
theorem Mv2.of {c p : Addr} {A B : Store} (h : Mvd c A B) : Mv2 c p A B := fun a o n _ e => h a o n e
theorem Mv2.put {c p : Addr} (S : Store) (o : DO) : Mv2 c p S (sup S p o) := fun a u _ m e => by rw [sup_ne m]; exact e
theorem Mv2.new {c p q : Addr} {A B : Store} (h : Mv2 c p A B) (o : DO) (hq : A q = none) : Mv2 c p A (sup B q o) := fun a u n m e => by
  rw [sup_ne (fun z => by rw [z, hq] at e; cases e)]
  exact h a u n m e
theorem Cl.new {c p q : Addr} {r ly : D} {t : Nat} {es : Es} {S : Store} (h : Cl w K c p r ly t es S) (o : DO) (h1 : q ≠ c) (h2 : q ≠ p) : Cl w K c p r ly t es (sup S q o) := ⟨by rw [sup_ne (fun e => h1 e.symm)]; exact h.o, by rw [sup_ne (fun e => h2 e.symm)]; exact h.f⟩
theorem nd_inj {α β : Type} {f : α → β} : ∀ {L : List α}, (L.map f).Nodup → ∀ {a b : α}, a ∈ L → b ∈ L → f a = f b → a = b
  | x :: L, h, a, b, ha, hb, e => by
    rw [List.map_cons, List.nodup_cons] at h
    rcases List.mem_cons.mp ha with e1 | ha2
    · rcases List.mem_cons.mp hb with e2 | hb2
      · rw [e1, e2]
      · exact absurd (by rw [← e1, e]; exact List.mem_map_of_mem hb2) h.1
    · rcases List.mem_cons.mp hb with e2 | hb2
      · exact absurd (by rw [← e2, ← e]; exact List.mem_map_of_mem ha2) h.1
      · exact nd_inj h.2 ha2 hb2 e
def rkOf : D → Int
  | .tup [_, _, .int r] => r
  | _ => 0
theorem look_mem {α β : Type} [BEq α] [LawfulBEq α] : ∀ {L : List (α × β)} {a : α} {b : β}, L.lookup a = some b → (a, b) ∈ L
  | (x, y) :: L, a, b, h => by
    rw [List.lookup_cons] at h
    cases e : a == x with
    | true =>
      rw [e] at h
      cases h
      rw [beq_iff_eq.mp e]
      exact List.mem_cons_self
    | false =>
      rw [e] at h
      exact List.mem_cons_of_mem _ (look_mem h)
/-- what a round has found -/
structure Fr (rs : Rules) (es fr : Es) : Prop where
  s : Sound rs (facts fr)
  nd : (facts fr).Nodup
  ds : ∀ f ∈ facts fr, f ∉ facts es
  v : ∀ e ∈ fr, ∃ x y, e.2 = D.tup [x, y]
theorem Fr.nil (rs : Rules) (es : Es) : Fr rs es [] := ⟨fun _ _ _ h => (nomatch h), List.nodup_nil, fun _ h => (nomatch h), fun _ h => (nomatch h)⟩
theorem facts_app (a b : Es) : facts (a ++ b) = facts a ++ facts b := List.map_append
theorem Fr.snoc {rs : Rules} {es fr : Es} (h : Fr rs es fr) (hs : Sound rs (facts es)) {q : Tx × Rule} (hq : q ∈ rs) {k : Kn} (hk : Way (facts es) q.2.b [] k) (x y : D) (n1 : fillA q.2.h k ∉ facts es) (n2 : fillA q.2.h k ∉ facts fr) : Fr rs es (fr ++ [(fillA q.2.h k, .tup [x, y])]) where
  s := fun T hT f hf => by
    rw [facts_app, List.mem_append] at hf
    rcases hf with hf | hf
    · exact h.s T hT f hf
    · rw [show f = fillA q.2.h k from List.mem_singleton.mp hf]
      exact hT q hq (facts es) (hs T hT) k hk
  nd := by
    rw [facts_app, List.nodup_append]
    refine ⟨h.nd, List.pairwise_singleton _ _, fun a ha b hb e => ?_⟩
    rw [show b = fillA q.2.h k from List.mem_singleton.mp hb] at e
    exact n2 (by rw [← e]; exact ha)
  ds := fun f hf => by
    rw [facts_app, List.mem_append] at hf
    rcases hf with hf | hf
    · exact h.ds f hf
    · rw [show f = fillA q.2.h k from List.mem_singleton.mp hf]
      exact n1
  v := fun e he => by
    rcases List.mem_append.mp he with he | he
    · exact h.v e he
    · rw [List.mem_singleton.mp he]
      exact ⟨x, y, rfl⟩
def m_close (w : World) (K : PySem.W.Frag) : M := fun ds S Q E => ∃ c p rs ws, ds = [.ref c] ∧ Cl w K c p (rulesD rs) (zeroD ws) 0 [] S ∧ Fits rs ∧ ws.Nodup ∧ (∀ y, y ∈ ws ↔ y ∈ wordsOf rs) ∧ (∀ S', E ⟨TwC K, []⟩ S') ∧
  ∀ (es : Es) S', Sound rs (facts es) → Closed rs (facts es) → (facts es).Nodup → es.length ≤ 2000 → (∀ e ∈ es, ValD e.2) → S' p = some (.dn w p (kvF es)) → (∀ a o, a ≠ c → a ≠ p → S a = some o → S' a = some o) → Q (.ref p) S'
theorem d_close (Z : Zf P w K mg base) : Me P w K mg base 14 (ClC K) "close" ["self"] (m_close w K) := by
  obtain ⟨fd, F, hb⟩ := Z.F_Closing_close
  refine ⟨⟨_, fd, df_of (k := 13) F sc_Closing_close (fun cdv A outer s H E F0 E' B => (dss_cons (ds_for (passes_of rfl) rfl (di_rng rfl Z.f_range (da_cons (de_op od_addT (de_cB (oc_max rfl) rfl Z.f_max bb_max (da_cons (de_op od_addT (de_lst (da_cons de_int da_nil)) (de_listVals rfl rfl Z.f_list (de_fldK K rfl (dv 0)))) da_nil)) de_int) da_nil)) (dg_name 1 nd_Closing_close) (dss_cons (ds_setLc 2 rfl nd_Closing_close rfl rfl (sw_true rfl rfl rfl (by decide +kernel)) (di_lst (de_cB (oc_sortDX (hu65 B.room) rfl) rfl Z.f_sorted bb_sorted (da_cons (de_fldK K rfl (dv 0)) da_nil))) (blkOk_by (own := [("name", 3)]) (N := N_Closing_close) (sc := defScope st_Closing_close) (by decide +kernel)) (fun _ _ _ _ _ => pg_name (i := 3) nd_Closing_close rfl (Or.inl rfl)) (fun _ _ _ _ _ => (dts_one (dt_cmp (od_eq B.blk.units) (de_fget (hu65 B.blk.room) (de_fldK K rfl (dv 0)) (de_ix (de_ix (de_fget (hu65 B.blk.room) (de_fldK K rfl (dv 0)) (dv 3)) de_int) de_int)) (dv 1) rfl))) (fun _ _ _ _ _ => (dv 3)))
    (dss_cons (ds_set 4 nd_Closing_close de_bl)
    (dss_one (ds_while (passes_of rfl) (dt_val (dv 4)) (dss_cons (ds_set 5 nd_Closing_close (de_nnew (w := w) rfl))
    (dss_cons (ds_for (passes_of rfl) rfl (di_lst (dv 2)) (dg_name 3 nd_Closing_close) (dss_cons (ds_asg (de_fget (hu65 B.room) (de_fldK K rfl (dv 0)) (dv 3)) (dg_tup (n := 2) rfl (dgs_cons (dg_name 6 nd_Closing_close) (dgs_cons (dg_name 7 nd_Closing_close) dgs_nil))))
    (dss_one (ds_for (passes_of rfl) rfl (di_lst (de_me (dv 0) (ways_all Z 11) (B.mono (by omega)) (da_cons (de_cT oc_tuple rfl Z.f_tuple bb_tuple (da_cons (dv 7) da_nil)) (da_cons (de_lck de_dnew) da_nil)))) (dg_name 8 nd_Closing_close) (dss_cons (ds_set 9 nd_Closing_close (de_ca (d_filled Z) (B.mono (by omega)) rfl (da_cons (dv 6) (da_cons (dv 8) da_nil))))
    (dss_one (ds_if (PW.pt (dw_and (dt_cmp (od_ninN (w := w) rfl (hu65 B.room)) (dv 9) (de_fldK K rfl (dv 0)) rfl) (dw_and1 (dt_cmp (od_ninN (w := w) rfl (hu65 B.room)) (dv 9) (dv 5) rfl)))) (dss_one (ds_nput (w := w) rfl (hu65 B.room) (dv 5) (dv 9) (de_tup (da_cons (dv 3) (da_cons (de_cT oc_tupP rfl Z.f_tuple bb_tuple (da_cons (de_sortItems (hu65 B.room) rfl rfl Z.f_sorted (dv 8)) da_nil)) da_nil))))) dss_nil)))))))
    (dss_cons (ds_set 4 nd_Closing_close (de_cmp (od_ord op_gt) (de_cB (oc_lenN (w := w) rfl) rfl Z.f_len bb_len (da_cons (dv 5) da_nil)) de_int rfl))
    (dss_cons (ds_set 10 nd_Closing_close (de_op od_addT de_int (de_cB (oc_max rfl) rfl Z.f_max bb_max (da_cons (de_op od_addT (de_lst (da_cons (de_neg de_int) da_nil)) (de_valsIK K rfl (de_valsI (c := 2) (v := 11) (i := 0) (w := w) rfl rfl nd_Closing_close (pe_var (i := 0) rfl (Or.inr (Or.inl rfl)) (by decide) (by decide)) (blkOk_by (own := [("told", 11)]) (N := N_Closing_close) (sc := defScope st_Closing_close) (by decide +kernel)) (fun _ _ _ _ _ => pg_name (i := 11) nd_Closing_close rfl (Or.inl rfl)) (fun _ _ _ _ _ => pe_var (i := 11) rfl (Or.inl rfl) (by decide) (by decide))))) da_nil))))
    (dss_cons (ds_for (passes_of rfl) rfl (di_lst (de_cB (oc_sortND (w := w) rfl (hu65 B.room) rfl) rfl Z.f_sorted bb_sorted (da_cons (dv 5) da_nil))) (dg_name 9 nd_Closing_close) (dss_one (ds_nput (w := w) rfl (hu65 B.room) (de_fldK K rfl (dv 0)) (dv 9) (de_op od_addT (de_nget (w := w) rfl (hu65 B.room) (dv 5) (dv 9)) (de_tup (da_cons (dv 10) da_nil))))))
    (dss_one (ds_if (dt_cmp (od_ord op_gt) (de_cB (oc_lenN (w := w) rfl) rfl Z.f_len bb_len (da_cons (de_fldK K rfl (dv 0)) da_nil)) (de_gint Z.i_MOST_FACTS rfl) rfl) (dss_one (ds_raise0 Z.x_TooWide B rfl Z.g_TooWide)) dss_nil))))))))))))
    (dss_one (ds_ret (de_fldK K rfl (dv 0)))))) ?_, Z.m_Closing_close, hb⟩, Z.c_Closing⟩
  rintro ds S Q E hl ⟨c, p, rs, ws, rfl, hc, hf, hw1, hw2, hE, hq⟩
  rw [show startD N_Closing_close [.ref c] = [some (.ref c), none, none, none, none, none, none, none, none, none, none, none] from rfl]
  clear hl
  have p1 := pl_rules Z
  have p2 := pl_found Z
  have p3 := pl_tries Z
  have p4 := pl_layers Z
  have hwl : ws.length ≤ 1000 := Nat.le_trans (nd_len ws (wordsOf rs) hw1 fun x hx => (hw2 x).mp hx) hf.w
  refine seq_cut (fun ρ S1 => ∃ x1 x2 x3 x4 x5 x6 x7 x8 x9 x10 x11 t, ∃ es : Es, ρ = [some (.ref c), x1, x2, x3, x4, x5, x6, x7, x8, x9, x10, x11] ∧ Cl w K c p (rulesD rs) (zeroD ws) t es S1 ∧ Sound rs (facts es) ∧ Closed rs (facts es) ∧ (facts es).Nodup ∧ es.length ≤ 2000 ∧ (∀ e ∈ es, ValD e.2) ∧ Mv2 c p S S1) (fun Rest hR => ?_) ?_
  · clear hq
    walk_at "nd"
    rw [hc.o]
    refine ⟨_, _, rfl, of_eq_true p4, _, lk_layers, _, _, rfl, by rw [List.length_map, List.length_map], ?_, 0 :: List.replicate ws.length 0, ?_, ?_, ?_, ?_, ?_⟩
    · rw [List.length_map]; exact Nat.le_trans (show 1 + ws.length ≤ 100000 by omega) (sz5 (by decide))
    · rw [zero_ints]; exact intsD_of _
    · rw [List.length_cons]; omega
    · rw [maxL_zero]; decide
    · rw [maxL_zero]; decide
    rw [maxL_zero]
    rw [show (0 + 1 : Int) = ((1 : Nat) : Int) from rfl, rng_nat, show (List.range' 0 1).map nat = [nat 0] from rfl]
    unfold forR
    refine seq_cut (fun ρ S1 => ∃ ns : List Tx, ns.Perm (rs.map (·.1)) ∧ ρ = [some (.ref c), some (nat 0), some (.lst (ns.map D.str)), none, none, none, none, none, none, none, none, none] ∧ S1 = S) (fun Rest2 hR2 => ?_) ?_
    · walk_at "nd"
      rw [hc.o]
      refine ⟨_, _, rfl, of_eq_true p1, _, lk_rules, rs.map (·.1), rs.map (fun p => p.2.d), ?_, by rw [List.length_map, List.length_map], by have := hf.n; rw [List.length_map]; omega, fun ns hns => ?_⟩
      · unfold rulesD
        rw [List.map_map]
        rfl
      refine lcR_filL D.str D.str (fun _ => true) ns [] S (fun x hx Q' q => ?_) (fun x hx Q' q => ?_) 1000 ?_ ?_
      · obtain ⟨qr, hqr, rfl⟩ := List.mem_map.mp (hns.mem_iff.mp hx)
        show tdB _ [some (.ref c), some (nat 0), none, some (.str qr.1), none, none, none, none, none, none, none, none] S Q'
        walk_at "nd"
        rw [hc.o]
        have hwq : qr.2.h.w ∈ ws := (hw2 _).mpr (List.mem_flatMap.mpr ⟨qr, hqr, List.mem_cons_self⟩)
        refine ⟨_, _, rfl, of_eq_true p4, _, lk_layers, _, _, rfl, of_eq_true p1, _, lk_rules, _, _, rfl, .inr qr.1, rfl, _, getF_map (·.1) (fun p => p.2.d) rs hqr hf.nd, _, rfl, _, rfl, ?_⟩
        exact ⟨_, _, rfl, .inr qr.2.h.w, rfl, _, getF_map id (fun _ => D.int 0) ws hwq (by rw [List.map_id]; exact hw1), _, rfl, q⟩
      · exact ⟨_, rfl, q⟩
      · have := hf.n
        have h9 := hns.length_eq
        rw [List.length_map] at h9
        rw [List.length_map, List.filter_eq_self.mpr (fun _ _ => rfl), List.length_nil]
        omega
      · rw [List.filter_eq_self.mpr (fun _ _ => rfl)]
        exact hR2 _ _ ⟨ns, hns, rfl, rfl⟩
    rintro ρ S1 ⟨ns, hns, rfl, e⟩
    replace e := e.symm
    subst e
    refine seq_cut (fun ρ S2 => ρ = [some (.ref c), some (nat 0), some (.lst (ns.map D.str)), none, some (.bl true), none, none, none, none, none, none, none] ∧ S2 = S) (fun Rest2 hR2 => ?_) ?_
    · walk_at "nd"
    rintro ρ S2 ⟨rfl, e⟩
    replace e := e.symm
    subst e
    have hnl := hns.length_eq
    rw [List.length_map] at hnl
    refine ⟨2003, while_ind (fun n ρ S' => ∃ x3 x5 x6 x7 x8 x9 x10 t, ∃ es : Es, ∃ g : Bool, ρ = [some (.ref c), some (nat 0), some (.lst (ns.map D.str)), x3, some (.bl g), x5, x6, x7, x8, x9, x10, none] ∧ Cl w K c p (rulesD rs) (zeroD ws) t es S' ∧ Sound rs (facts es) ∧ (g = true ∨ Closed rs (facts es)) ∧ (facts es).Nodup ∧ es.length ≤ 2000 ∧ (∀ e ∈ es, ValD e.2) ∧ Mv2 c p S S' ∧ t ≤ 100000 ∧ 1 ≤ n ∧ (g = true → 2002 ≤ n + es.length)) ?_ ?_ _ _ _
      ⟨none, none, none, none, none, none, none, 0, [], true, rfl, hc, fun _ _ _ h => (nomatch h), .inl rfl, List.nodup_nil, by decide, fun _ h => (nomatch h), fun _ _ _ _ h => h, by decide, by decide, fun _ => by decide⟩⟩
    · rintro n ρ S2 W hW ⟨x3, x5, x6, x7, x8, x9, x10, t, es, g, rfl, g1, g2, g3, g4, g5, g6, g7, g8, g9, g10⟩
      refine ⟨_, rfl, g, rfl, ?_⟩
      cases g with
      | false =>
        refine iteF ?_
        rcases g3 with g3 | g3
        · cases g3
        · unfold forR
          exact hR _ _ ⟨_, _, _, _, _, _, _, _, _, _, _, t, es, rfl, g1, g2, g3, g4, g5, g6, g7⟩
      | true =>
        refine iteT ?_
        have g10 := g10 rfl
        clear g3 g9 hR
        refine seq_cut (fun ρ S' => ∃ q, S2 q = none ∧ ρ = [some (.ref c), some (nat 0), some (.lst (ns.map D.str)), x3, some (.bl true), some (.ref q), x6, x7, x8, x9, x10, none] ∧ S' = sup S2 q (.dn w q [])) (fun Rest2 hR2 => ?_) ?_
        · exact fun q hq0 => hR2 _ _ ⟨q, hq0, rfl, rfl⟩
        rintro ρ S' ⟨q, hq0, rfl, rfl⟩
        have hqc : q ≠ c := fun e => by rw [e, g1.o] at hq0; cases hq0
        have hqp : q ≠ p := fun e => by rw [e, g1.f] at hq0; cases hq0
        have hqs : S q = none := by
          cases h : S q with
          | none => rfl
          | some o => rw [g7 q o hqc hqp h] at hq0; cases hq0
        refine seq_cut (fun ρ S' => ∃ x3 x6 x7 x8 x9 t2, ∃ fr : Es, ρ = [some (.ref c), some (nat 0), some (.lst (ns.map D.str)), x3, some (.bl true), some (.ref q), x6, x7, x8, x9, x10, none] ∧ Cl w K c p (rulesD rs) (zeroD ws) t2 es S' ∧ S' q = some (.dn w q (kvF fr)) ∧ Fr rs es fr ∧ t2 ≤ 100000 ∧ fr.length ≤ t2 + rs.length ∧ Mv2 c p S S' ∧
          ∀ r ∈ rs, ∀ k, Way (facts es) r.2.b [] k → fillA r.2.h k ∈ facts es ∨ fillA r.2.h k ∈ facts fr) (fun Rest2 hR2 => ?_) ?_
        · walk_at "nd"
          clear hW
          refine for_ind (fun ds ρ S' => ∃ (r : List Tx) (x3 x6 x7 x8 x9 : Option D) (t2 : Nat) (fr : Es), (∀ x ∈ r, x ∈ rs.map (·.1)) ∧ ds = r.map D.str ∧ ρ = [some (.ref c), some (nat 0), some (.lst (ns.map D.str)), x3, some (.bl true), some (.ref q), x6, x7, x8, x9, x10, none] ∧ Cl w K c p (rulesD rs) (zeroD ws) t2 es S' ∧ S' q = some (.dn w q (kvF fr)) ∧ Fr rs es fr ∧ t2 ≤ 100000 ∧ fr.length + r.length ≤ t2 + rs.length ∧ Mv2 c p S S' ∧
            ∀ a ∈ rs, a.1 ∉ r → ∀ k, Way (facts es) a.2.b [] k → fillA a.2.h k ∈ facts es ∨ fillA a.2.h k ∈ facts fr) ?_ ?_ _ _ _
            ⟨ns, x3, x6, x7, x8, x9, t, [], fun x hx => hns.mem_iff.mp hx, rfl, rfl, g1.new _ hqc hqp, sup_same, Fr.nil rs es, g8, by rw [List.length_nil]; omega, g7.new _ hqs, fun a ha hn => absurd (hns.mem_iff.mpr (List.mem_map_of_mem ha)) hn⟩
          · rintro ρ S' ⟨r, x3, x6, x7, x8, x9, t2, fr, k0, e0, rfl, k1, k2, k3, k4, k5, k6, k7⟩
            cases r with
            | cons x r => cases e0
            | nil => exact hR2 _ _ ⟨x3, x6, x7, x8, x9, t2, fr, rfl, k1, k2, k3, k4, by simpa using k5, k6, fun a ha k hk => k7 a ha (fun h => nomatch h) k hk⟩
          · rintro d ds ρ S' W2 hW2 ⟨r, x3, x6, x7, x8, x9, t2, fr, k0, e0, rfl, k1, k2, k3, k4, k5, k6, k7⟩
            cases r with
            | nil => cases e0
            | cons x r =>
              injection e0 with e0 e1
              subst e0 e1
              obtain ⟨a, ha, rfl⟩ := List.mem_map.mp (k0 x List.mem_cons_self)
              clear hR2
              refine seq_cut (fun ρ S3 => ρ = [some (.ref c), some (nat 0), some (.lst (ns.map D.str)), some (.str a.1), some (.bl true), some (.ref q), some a.2.h.d, some (bodyD a.2.b), x8, x9, x10, none] ∧ S3 = S') (fun Rest3 hR3 => ?_) ?_
              · exact ⟨_, rfl, c, _, _, _, rfl, k1.o, of_eq_true p1, lk_rules, _, rfl, _, _, .inr a.1, _, rfl, rfl, getF_map (·.1) (fun p => p.2.d) rs ha hf.nd, _, rfl, rfl, _, _, rfl, _, _, rfl, rfl, hR3 _ _ ⟨rfl, rfl⟩⟩
              rintro ρ S3 ⟨rfl, e⟩
              replace e := e.symm
              subst e
              have hb1 := hf.b a ha
              walk_at "nd"
              rw [k1.o]
              refine ⟨_, rfl, lm_ways, ?_⟩
              show ∀ p0, S' p0 = none → m_ways w K 11 [.ref c, bodyD a.2.b, knD []] (sdel (sup S' p0 (DO.dic [])) p0) _ E
              intro p0 hp0
              rw [sdel_sup hp0]
              refine ⟨c, p, _, _, t2, es, a.2.b, [], rfl, by omega, k1, k4, by omega, ⟨hb1.1, fun y hy => hb1.2.2 y hy, hf.a a ha⟩, by rw [List.length_nil]; omega, hE, fun wl t3 S3 j1 j2 j3 j4 j5 => ?_⟩
              rw [List.length_cons] at k5
              refine for_ind (fun ds ρ S4 => ∃ (wr : List Kn) (x8 x9 : Option D) (fr' : Es), ds = wr.map knD ∧ (∀ k ∈ wr, Way (facts es) a.2.b [] k) ∧ ρ = [some (.ref c), some (nat 0), some (.lst (ns.map D.str)), some (.str a.1), some (.bl true), some (.ref q), some a.2.h.d, some (bodyD a.2.b), x8, x9, x10, none] ∧
                Cl w K c p (rulesD rs) (zeroD ws) t3 es S4 ∧ S4 q = some (.dn w q (kvF fr')) ∧ Fr rs es fr' ∧ fr'.length + wr.length + r.length ≤ t3 + rs.length ∧ Mv2 c p S S4 ∧ (∀ f ∈ facts fr, f ∈ facts fr') ∧ (∀ k, Way (facts es) a.2.b [] k → k ∈ wr ∨ fillA a.2.h k ∈ facts es ∨ fillA a.2.h k ∈ facts fr')) ?_ ?_ _ _ _
                ⟨wl, x8, x9, fr, rfl, fun k hk => (j1 k).mp hk, rfl, j4, j5 q _ hqc k2, k3, by omega, k6.trans (Mv2.of j5), fun f h => h, fun k hk => .inl ((j1 k).mpr hk)⟩
              · rintro ρ S4 ⟨wr, x8, x9, fr', e0, i0, rfl, i1, i2, i3, i4, i5, i6, i7⟩
                cases wr with
                | cons k wr => cases e0
                | nil =>
                  refine hW2 _ _ ⟨r, _, _, _, _, _, t3, fr', fun y hy => k0 y (List.mem_cons_of_mem _ hy), rfl, rfl, i1, i2, i3, j3, by simpa using i4, i5, fun b hb hn k hk => ?_⟩
                  by_cases e : b.1 = a.1
                  · rw [nd_inj hf.nd hb ha e] at hk ⊢
                    rcases i7 k hk with z | z
                    · cases z
                    · exact z
                  · rcases k7 b hb (fun z => by
                      rcases List.mem_cons.mp z with z | z
                      · exact e z
                      · exact hn z) k hk with z | z
                    · exact .inl z
                    · exact .inr (i6 _ z)
              · rintro d ds ρ S4 W3 hW3 ⟨wr, x8, x9, fr', e0, i0, rfl, i1, i2, i3, i4, i5, i6, i7⟩
                cases wr with
                | nil => cases e0
                | cons k wr =>
                  injection e0 with e0 e1
                  subst e0 e1
                  rw [List.length_cons] at i4
                  have hk := i0 k List.mem_cons_self
                  clear hW2 j1 j2 j4 j5 k7 k1 k2 k3 k6
                  refine seq_cut (fun ρ S5 => ρ = [some (.ref c), some (nat 0), some (.lst (ns.map D.str)), some (.str a.1), some (.bl true), some (.ref q), some a.2.h.d, some (bodyD a.2.b), some (knD k), some (fillA a.2.h k).d, x10, none] ∧ S5 = S4) (fun Rest3 hR3 => ?_) ?_
                  · exact ⟨_, rfl, _, rfl, rfl, a.2.h, k, rfl, way_full hf ha hk, by omega, hR3 _ _ ⟨rfl, rfl⟩⟩
                  rintro ρ S5 ⟨rfl, e⟩
                  replace e := e.symm
                  subst e
                  refine ifS_cut (decide (fillA a.2.h k ∉ facts es ∧ fillA a.2.h k ∉ facts fr')) (fun Q' q' => ?_) (fun hb3 => ?_) (fun hb3 => ?_)
                  · walk_at "nd"
                    rw [i1.o]
                    refine ⟨_, _, rfl, of_eq_true p2, _, lk_found, p, _, fk (fillA a.2.h k), rfl, i1.f, fk_d _, _, rfl, ?_⟩
                    rw [has_kvF]
                    by_cases h1 : fillA a.2.h k ∈ facts es
                    · rw [decide_eq_false (show ¬ (fillA a.2.h k ∉ facts es ∧ fillA a.2.h k ∉ facts fr') from fun z => z.1 h1)] at q'
                      rw [decide_eq_true h1]
                      exact q'
                    · rw [decide_eq_false h1]
                      refine iteT ⟨q, _, fk (fillA a.2.h k), rfl, i2, fk_d _, _, rfl, ?_⟩
                      rw [has_kvF]
                      by_cases h2 : fillA a.2.h k ∈ facts fr'
                      · rw [decide_eq_false (show ¬ (fillA a.2.h k ∉ facts es ∧ fillA a.2.h k ∉ facts fr') from fun z => z.2 h2)] at q'
                        rw [decide_eq_true h2]
                        exact q'
                      · rw [decide_eq_true (show fillA a.2.h k ∉ facts es ∧ fillA a.2.h k ∉ facts fr' from ⟨h1, h2⟩)] at q'
                        rw [decide_eq_false h2]
                        exact q'
                  · rw [decide_eq_true_eq] at hb3
                    walk_at "nd"
                    have hkl := way_len a.2.b [] k hb1.2.2 hk
                    rw [List.length_nil] at hkl
                    refine ⟨_, _, rfl, by rw [List.length_map, List.length_map], ?_, fun es' _ => ⟨_, rfl, _, rfl, _, rfl, _, fk_d _, ?_, ?_⟩⟩
                    · rw [it_kn]
                      exact kn_sort (by omega)
                    · rw [kvF_len]
                      have := hf.n
                      have := j3
                      exact Nat.lt_of_lt_of_le (show fr'.length < 200000 by omega) (sz5 (by decide))
                    · rw [setN_new _ hb3.2]
                      refine hW3 _ _ ⟨wr, _, _, _, rfl, fun y hy => i0 y (List.mem_cons_of_mem _ hy), rfl, i1.new _ hqc hqp, sup_same, i3.snoc g2 ha hk _ _ hb3.1 hb3.2, by rw [List.length_append]; show fr'.length + 1 + _ + _ ≤ _; omega, i5.new _ hqs, fun f hf => by rw [facts_app, List.mem_append]; exact .inl (i6 f hf), fun y hy => ?_⟩
                      rcases i7 y hy with z | z | z
                      · rcases List.mem_cons.mp z with rfl | z
                        · refine .inr (.inr ?_)
                          rw [facts_app, List.mem_append]
                          exact .inr (List.mem_singleton.mpr rfl)
                        · exact .inl z
                      · exact .inr (.inl z)
                      · refine .inr (.inr ?_)
                        rw [facts_app, List.mem_append]
                        exact .inl z
                  · rw [decide_eq_false_iff_not] at hb3
                    refine hW3 _ _ ⟨wr, _, _, fr', rfl, fun y hy => i0 y (List.mem_cons_of_mem _ hy), rfl, i1, i2, i3, by omega, i5, i6, fun y hy => ?_⟩
                    rcases i7 y hy with z | z
                    · rcases List.mem_cons.mp z with rfl | z
                      · refine .inr ?_
                        by_cases h1 : fillA a.2.h y ∈ facts es
                        · exact .inl h1
                        · exact .inr (Classical.byContradiction fun h2 => hb3 ⟨h1, h2⟩)
                      · exact .inl z
                    · exact .inr z
        rintro ρ S' ⟨x3, x6, x7, x8, x9, t2, fr, rfl, k1, k2, k3, k4, k5, k6, k7⟩
        refine seq_cut (fun ρ S4 => ρ = [some (.ref c), some (nat 0), some (.lst (ns.map D.str)), x3, some (.bl (decide (0 < fr.length))), some (.ref q), x6, x7, x8, x9, x10, none] ∧ S4 = S') (fun Rest3 hR3 => ?_) ?_
        · walk_at "nd"
          refine ⟨q, rfl, _, k2, ?_⟩
          rw [kvF_len, show decide ((0 : Int) < ((fr.length : Nat) : Int)) = decide (0 < fr.length) from decide_eq_decide.mpr (by omega)]
          exact hR3 _ _ ⟨rfl, rfl⟩
        rintro ρ S4 ⟨rfl, e⟩
        replace e := e.symm
        subst e
        refine seq_cut (fun ρ S4 => ∃ rk : Int, ρ = [some (.ref c), some (nat 0), some (.lst (ns.map D.str)), x3, some (.bl (decide (0 < fr.length))), some (.ref q), x6, x7, x8, x9, some (.int rk), none] ∧ S4 = S') (fun Rest3 hR3 => ?_) ?_
        · walk_at "nd"
          rw [k1.o]
          refine ⟨_, _, rfl, of_eq_true p2, p, lk_found, _, k1.f, show 11 < 12 by decide, es.map (fun e => rkOf e.2), by rw [kvF_len, List.length_map], by rw [kvF_len]; omega, fun j r hj => ?_, ?_, (-1) :: es.map (fun e => rkOf e.2), ?_, ?_, ?_⟩
          · rw [List.getElem?_map] at hj
            obtain ⟨e, he, rfl⟩ := Option.map_eq_some_iff.mp hj
            obtain ⟨y1, y2, y3, ey⟩ := g6 e (List.mem_of_getElem? he)
            refine ⟨(fk e.1, e.1.d, e.2), by unfold kvF; rw [List.getElem?_map, he]; rfl, [y1, y2, .int y3], ey, ?_⟩
            rw [ey]
            rfl
          · rw [List.length_map]
            exact Nat.le_trans (show 1 + es.length ≤ 100000 by omega) (sz5 (by decide))
          · exact intsD_of ((-1) :: es.map (fun e => rkOf e.2))
          · rw [List.length_cons]; omega
          · exact hR3 _ _ ⟨_, rfl, rfl⟩
        rintro ρ S4 ⟨rk, rfl, e⟩
        replace e := e.symm
        subst e
        refine seq_cut (fun ρ S4 => ∃ x9, ∃ es' : Es, ρ = [some (.ref c), some (nat 0), some (.lst (ns.map D.str)), x3, some (.bl (decide (0 < fr.length))), some (.ref q), x6, x7, x8, x9, some (.int rk), none] ∧ Cl w K c p (rulesD rs) (zeroD ws) t2 es' S4 ∧ (facts es').Perm (facts es ++ facts fr) ∧ (∀ e ∈ es', ValD e.2) ∧ Mv2 c p S S4) (fun Rest3 hR3 => ?_) ?_
        · walk_at "nd"
          clear hE hW
          refine ⟨q, rfl, _, k2, ?_, fun ds pe => ?_⟩
          · rw [kvF_facts]
            exact fact_sort (by unfold facts; rw [List.length_map]; have := hf.n; omega)
          rw [kvF_facts] at pe
          obtain ⟨L, pf, rfl⟩ := perm_map pe
          have hnd0 : (facts es ++ facts fr).Nodup := List.nodup_append.mpr ⟨g4, k3.nd, fun a ha b hb e => k3.ds b hb (by rw [← e]; exact ha)⟩
          refine for_ind (fun ds ρ S4 => ∃ (r : List Fact) (x9 : Option D) (es' : Es), ds = r.map Fact.d ∧ (∀ f ∈ r, f ∈ facts fr) ∧ ρ = [some (.ref c), some (nat 0), some (.lst (ns.map D.str)), x3, some (.bl (decide (0 < fr.length))), some (.ref q), x6, x7, x8, x9, some (.int rk), none] ∧ Cl w K c p (rulesD rs) (zeroD ws) t2 es' S4 ∧ S4 q = some (.dn w q (kvF fr)) ∧ (facts es' ++ r).Perm (facts es ++ facts fr) ∧ (∀ e ∈ es', ValD e.2) ∧ Mv2 c p S S4) ?_ ?_ _ _ _
            ⟨L, x9, es, rfl, fun f hf => pf.mem_iff.mp hf, rfl, k1, k2, List.Perm.append_left _ pf, g6, k6⟩
          · rintro ρ S4 ⟨r, x9, es', e0, i0, rfl, i1, i5, i2, i3, i4⟩
            cases r with
            | cons f r => cases e0
            | nil => exact hR3 _ _ ⟨x9, es', rfl, i1, by simpa using i2, i3, i4⟩
          · rintro d ds ρ S4 W hW ⟨r, x9, es', e0, i0, rfl, i1, i5, i2, i3, i4⟩
            cases r with
            | nil => cases e0
            | cons f r =>
              injection e0 with e0 e1
              subst e0 e1
              have hn2 := i2.nodup_iff.mpr hnd0
              have hn3 : f ∉ facts es' := fun z => (List.nodup_append.mp hn2).2.2 f z f List.mem_cons_self rfl
              have hlk : ∃ x y, fr.lookup f = some (D.tup [x, y]) := by
                cases h : fr.lookup f with
                | none => exact absurd (i0 f List.mem_cons_self) (look_none.mp h)
                | some v =>
                  obtain ⟨x, y, e⟩ := k3.v (f, v) (look_mem h)
                  exact ⟨x, y, by rw [show v = _ from e]⟩
              obtain ⟨x, y, hlk⟩ := hlk
              walk_at "nd"
              rw [i1.o]
              refine ⟨_, rfl, _, fk_d f, f.d, D.tup [x, y], by rw [vN_kvF, hlk]; rfl, ?_⟩
              refine ⟨Nat.le_trans (show 3 ≤ 1000 by decide) (sz5 (by decide)), _, _, rfl, of_eq_true p2, _, lk_found, p, rfl, _, i1.f, _, fk_d f, ?_, ?_⟩
              · have h1 := i2.length_eq
                rw [List.length_append, List.length_append] at h1
                have h2 : (facts es').length = es'.length := List.length_map _
                have h3 : (facts es).length = es.length := List.length_map _
                have h4 : (facts fr).length = fr.length := List.length_map _
                have := hf.n
                rw [kvF_len]
                exact Nat.lt_of_lt_of_le (show es'.length < 200000 by omega) (sz5 (by decide))
              · rw [setN_new _ hn3]
                refine hW _ _ ⟨r, _, es' ++ [(f, D.tup ([x, y] ++ [.int rk]))], rfl, fun g hg => i0 g (List.mem_cons_of_mem _ hg), rfl, ⟨?_, sup_same⟩, ?_, ?_, fun e he => ?_, i4.trans (Mv2.put _ _)⟩
                · rw [sup_ne (fun e => i1.ne e.symm)]
                  exact i1.o
                · rw [sup_ne hqp]
                  exact i5
                · rw [facts_app, List.append_assoc]
                  exact i2
                · rcases List.mem_append.mp he with he | he
                  · exact i3 e he
                  · rw [List.mem_singleton.mp he]
                    exact ⟨x, y, rk, rfl⟩
        rintro ρ S4 ⟨x9, es', rfl, i1, i2, i3, i4⟩
        refine ifS_cut (decide (2000 < es'.length)) (fun Q' q' => ?_) (fun hb3 => ?_) (fun hb3 => ?_)
        · walk_at "nd"
          rw [i1.o]
          refine ⟨_, _, rfl, of_eq_true p2, _, lk_found, p, rfl, _, i1.f, ?_⟩
          rw [kvF_len, show decide ((2000 : Int) < ((es'.length : Nat) : Int)) = decide (2000 < es'.length) from decide_eq_decide.mpr (by omega)]
          exact q'
        · exact hE _
        · rw [decide_eq_false_iff_not] at hb3
          have hl2 : es'.length = es.length + fr.length := by
            have := i2.length_eq
            unfold facts at this
            simpa using this
          have hnd : (facts es').Nodup := i2.nodup_iff.mpr (List.nodup_append.mpr ⟨g4, k3.nd, fun a ha b hb e => k3.ds b hb (by rw [← e]; exact ha)⟩)
          refine hW _ _ ⟨x3, _, x6, x7, x8, x9, _, t2, es', _, rfl, i1, fun T hT f hf => ?_, ?_, hnd, by omega, i3, i4, k4, ?_, fun z => ?_⟩
          · rcases List.mem_append.mp (i2.mem_iff.mp hf) with z | z
            · exact g2 T hT f z
            · exact k3.s T hT f z
          · by_cases h0 : 0 < fr.length
            · exact .inl (decide_eq_true h0)
            · have h1 : fr = [] := List.eq_nil_of_length_eq_zero (by omega)
              subst h1
              refine .inr fun a ha k hk => ?_
              have hp : ∀ f, f ∈ facts es' ↔ f ∈ facts es := fun f => by
                rw [i2.mem_iff, show facts ([] : Es) = [] from rfl, List.append_nil]
              rcases k7 a ha k (way_mono (fun f hf => (hp f).mp hf) _ _ _ hk) with z | z
              · exact (hp _).mpr z
              · cases z
          · omega
          · have := of_decide_eq_true z
            omega
    · rintro ρ S' ⟨x3, x5, x6, x7, x8, x9, x10, t, es, g, _, _, _, _, _, _, _, _, _, h, _⟩
      omega
  rintro ρ S1 ⟨x1, x2, x3, x4, x5, x6, x7, x8, x9, x10, x11, t, es, rfl, g1, g2, g3, g4, g5, g6, g7⟩
  walk_at "nd"
  rw [g1.o]
  exact ⟨_, _, rfl, of_eq_true p2, _, lk_found, fini (hq es S1 g2 g3 g4 g5 g6 g1.f g7)⟩
end K07
namespace K07
open PySem PySem.Spec L2 DL
local macro_rules | `(tactic| walk_at "nd") => `(tactic| simp only [icO, isN0, gStr, tdiE, tdiZT, gSortND, gSortL, gSortDX, tdListVals, tdSortItems, tdiVals, gDictC, tdLck, tdSetd, tdExt, gIntT, tdTruT, tdRaise0, gTupP, tdPt, gDictT, tdLc2T, tdLcN, gLenN, tdValsI, tdSortSet, gCatB, gEq_bb, tdLcB, tdDNew, tdNNew, tdNGet, tdNPut, tdFGet, tdiF, tdDctF, tdDc, tdDcN, tdTru, tdDAugG, tdDictZ, tdCallV, tdLc2, ln_4, ln_5, ln_6, fmod_2, fdiv_2, gAddT, tdIdx, gdUnl, tdiD, gSortI, gMin2, gMax2, gTuple, gDictP, tdLcT, lcT, setD, unsetD, tdKGet, tdKGet2, tdGet2, tdPop, tdSeq, tdAsg, tdV, gdName, tdAnd, tdOr, tdNot, tdB, tdOp, tdCB, tdCons, tdNil, tdC, tdAug, tdSl, tdP, tdRet, tdTup, tdIf, tdIfS, gOrd, gI0, gI, gLen, gIx, gAdd, gInt, vw, ixP, gSl, tdDrop, tdRetN, tdNext, gIn_sc, gIn_ts, gIn_ls, gIn_t2, gIn_l2, gIn_l4, tdApp, sl_0, sl_1, sl_2, sl_3, sl_4, sl_5, ff, tt', true_and, id,
  eqS, tdFor, tdiT, tdiL, tdiR, tdXp, gList, gEq_ns, tdJoin, gJoin, vwS, gMul, gMod, gDiv, gPow, gI, tdAugS, gdSub, gSet, ixN_2, ixN_3, atI_3, atI_4, gEq_ss, gEq_ii, tdDict, tdPairs, tdNeg, Option.isNone_none, Option.isNone_some, gIsi, tdGet, tdDPut, tdDAug, tdIsN, tdNotN, DO.dic.injEq, Option.isNone_none, Option.isNone_some, gIn_l2, gIn_t2, Option.getD_some, tdLc, gMax, tdNoP, forR, tdRaise, tdCall, tdNotV, tdAndV, tdOrV, tdBox, tdZ, gdTup, gdCons, gdNil, tdBreak, tdCont, tdYes, icast, icast1, icast2, icast3, tdLst, gIn_l4, icastL, icastE, icastZ, ln_0, ln_1, ln_2, ln_3,
  List.getElem?_cons_zero, List.getElem?_cons_succ, List.set_cons_zero, List.set_cons_succ, Option.some.injEq, exists_eq_left', exists_eq_left, D.bl.injEq, decide_eq_true_eq,
  tdFldC, tdMeth, tdMake, tdPutF, tdAugF, D.ref.injEq, DO.ins.injEq, and_assoc, DL.gSub, D.int.injEq, D.str.injEq, sup_same, eq_self, not_true_eq_false, not_false_eq_true, Bool.false_eq_true, Bool.not_eq_true, decide_not, atIn, atI_0, atI_1, atI_2, List.getElem?_map, Option.map_some, Option.map_none, decide_true, decide_false, Bool.not_true, Bool.not_false, if_true, if_false, lm_0, lm_1, lm_2, List.length_map, exists_and_left, *])
variable {P : Program} {w : World} {K : PySem.W.Frag} {mg : Str → Option Value} {base : Heap}
abbrev Told := List (Fact × List D)
def toldD (L : Told) : D := .tup (L.map fun e => .tup (e.1.d :: e.2))
def tfs (L : Told) : List Fact := L.map (·.1)
def valsOf (es : Es) (f : Fact) : List D := match es.lookup f with
  | some (.tup vs) => vs
  | _ => []
def m_world (w : World) (K : PySem.W.Frag) : M := fun ds S Q E => ∃ rs, ds = [rulesD rs] ∧ Fits rs ∧ (∀ S', E ⟨TwC K, []⟩ S') ∧
  ∀ (L : Told) S', Sound rs (tfs L) → Closed rs (tfs L) → (tfs L).Nodup → L.length ≤ 2000 → Sub S S' → Q (toldD L) S'
theorem d_world (Z : Zf P w K mg base) : Ca P w K mg base 16 "world" ["rules"] (m_world w K) := by
  obtain ⟨fd, F, hb⟩ := Z.F_world
  refine ⟨_, fd, df_of (k := 15) F sc_world (fun cdv A outer s H E F0 E' B => (dss_cons (ds_set 1 nd_world (de_me0 (de_ma (d_Closing___init__ Z) (B.mono (by omega)) rfl (da_cons (dv 0) da_nil)) (d_close Z) (B.mono (by omega))))
    (dss_one (ds_ret (de_cT oc_tuple rfl Z.f_tuple bb_tuple (da_cons (de_lc rfl nd_world (di_lst (de_cB (oc_sortND (w := w) rfl (hu65 B.room) rfl) rfl Z.f_sorted bb_sorted (da_cons (dv 1) da_nil))) (blkOk_by (own := [("fact", 2)]) (N := N_world) (sc := defScope st_world) (by decide +kernel)) (fun _ _ _ _ _ => pg_name (i := 2) nd_world rfl (Or.inl rfl)) (fun _ _ _ _ _ => dts_nil) (fun _ _ _ _ _ => (de_op od_addT (de_tup (da_cons (dv 2) da_nil)) (de_nget (w := w) rfl (hu65 B.blk.room) (dv 1) (dv 2))))) da_nil)))))) ?_, Z.g_world, F.kp, hb⟩
  rintro ds S Q E hl ⟨rs, rfl, hf, hE, hq⟩
  rw [show startD N_world [rulesD rs] = [some (rulesD rs), none, none] from rfl]
  clear hl
  refine seq_cut (fun ρ S1 => ∃ p, ∃ es : Es, ρ = [some (rulesD rs), some (.ref p), none] ∧ Sound rs (facts es) ∧ Closed rs (facts es) ∧ (facts es).Nodup ∧ es.length ≤ 2000 ∧ (∀ e ∈ es, ValD e.2) ∧ S1 p = some (.dn w p (kvF es)) ∧ Sub S S1) (fun Rest hR => ?_) ?_
  · walk_at "nd"
    intro c hc
    refine ⟨c, rs, rfl, sup_same, hf, fun p ws S1 hp h1 h2 h3 h4 => ⟨rfl, _, h1.o, lm_close, c, p, rs, ws, rfl, h1, hf, h3, h4, hE, fun es S2 k1 k2 k3 k4 k5 k6 k7 => hR _ _ ⟨p, es, rfl, k1, k2, k3, k4, k5, k6, fun a o ha => ?_⟩⟩⟩
    have hac : a ≠ c := fun e => by rw [e, hc] at ha; cases ha
    have hap : a ≠ p := fun e => by
      rw [e] at ha
      by_cases e2 : p = c
      · exact hac (e.trans e2)
      · rw [sup_ne e2] at hp
        rw [hp] at ha
        cases ha
    refine k7 a o hac hap (h2 a o hac ?_)
    rw [sup_ne hac]
    exact ha
  rintro ρ S1 ⟨p, es, rfl, g1, g2, g3, g4, g5, g6, g7⟩
  walk_at "nd"
  refine ⟨p, rfl, _, g6, ?_, fun ds pe => ?_⟩
  · rw [kvF_facts]
    exact fact_sort (by unfold facts; rw [List.length_map]; omega)
  rw [kvF_facts] at pe
  obtain ⟨L, pf, rfl⟩ := perm_map pe
  have hlk : ∀ f ∈ L, ∃ x y, ∃ r : Int, es.lookup f = some (D.tup [x, y, .int r]) := fun f hf => by
    cases h : es.lookup f with
    | none => exact absurd (pf.mem_iff.mp hf) (look_none.mp h)
    | some v =>
      obtain ⟨x, y, r, e⟩ := g5 (f, v) (look_mem h)
      exact ⟨x, y, r, by rw [show v = _ from e]⟩
  have hll : L.length = es.length := by rw [pf.length_eq]; exact List.length_map _
  refine lcR_map Fact.d (fun f => .tup (f.d :: valsOf es f)) L [] S1 (fun f hf Q' q => ?_) (by rw [List.length_nil]; omega) ?_
  · obtain ⟨x, y, r, h1⟩ := hlk f hf
    show tdOp _ _ _ [some (rulesD rs), some (D.ref p), some f.d] S1 Q'
    have e1 : valsOf es f = [x, y, .int r] := by unfold valsOf; rw [h1]
    rw [e1] at q
    walk_at "nd"
    refine ⟨_, rfl, _, fk_d f, f.d, D.tup [x, y, .int r], by rw [vN_kvF, h1]; rfl, ?_⟩
    exact ⟨Nat.le_trans (show 4 ≤ 1000 by decide) (sz5 (by decide)), q⟩
  · rw [List.nil_append]
    have e2 : D.tup (L.map fun f => D.tup (f.d :: valsOf es f)) = toldD (L.map fun f => (f, valsOf es f)) := by
      unfold toldD
      rw [List.map_map]
      rfl
    rw [e2]
    have e3 : tfs (L.map fun f => (f, valsOf es f)) = L := by
      unfold tfs
      rw [List.map_map]
      exact List.map_id L
    refine fini (hq _ _ ?_ ?_ ?_ ?_ g7)
    · rw [e3]
      exact fun T hT f hf => g1 T hT f (pf.mem_iff.mp hf)
    · rw [e3]
      exact fun a ha k hk => pf.mem_iff.mpr (g2 a ha k (way_mono (fun f hf => pf.mem_iff.mp hf) _ _ _ hk))
    · rw [e3]
      exact pf.nodup_iff.mpr g3
    · rw [List.length_map]; omega
def ptK (k : Kn) : D := .ptp (prKn k)
theorem pr_data : ∀ k : Kn, D.datas (prKn k) = k.map fun p => PyData.tuple [.str (tS p.1), .str (tS p.2)]
  | [] => rfl
  | p :: k => by
    show D.datas (_ :: prKn k) = _
    unfold D.datas
    rw [pr_data k]
    rfl
theorem pr_pure : ∀ k : Kn, D.pures (prKn k) = true
  | [] => rfl
  | p :: k => by
    show D.pures (_ :: prKn k) = _
    unfold D.pures
    rw [pr_pure k]
    rfl
theorem ptK_data (k : Kn) : (ptK k).data = .tuple (k.map fun p => PyData.tuple [.str (tS p.1), .str (tS p.2)]) := by
  unfold ptK D.data
  rw [pr_data]
theorem pr_alike : ∀ k l : Kn, PySem.W.alikeAll (k.map fun p => PyData.tuple [.str (tS p.1), .str (tS p.2)]) (l.map fun p => PyData.tuple [.str (tS p.1), .str (tS p.2)]) = true
  | [], l => by cases l <;> rfl
  | _ :: _, [] => rfl
  | t :: ts, u :: us => by
    rw [List.map_cons, List.map_cons]
    unfold PySem.W.alikeAll
    rw [pr_alike ts us]
    rfl
theorem pr_depth : ∀ k : Kn, PyData.depthAll (k.map fun p => PyData.tuple [.str (tS p.1), .str (tS p.2)]) ≤ 1
  | [] => Nat.zero_le _
  | t :: ts => by
    rw [List.map_cons]
    unfold PyData.depthAll
    refine Nat.max_le.mpr ⟨?_, pr_depth ts⟩
    simp only [PyData.depth, PyData.depthAll]
    decide
theorem ptK_sort {L : List Kn} (h : L.length ≤ 1000000) (h0 : ∀ k ∈ L, k ≠ []) : CanSort (L.map ptK) where
  pure := by
    clear h h0
    induction L with
    | nil => rfl
    | cons k L ih => rw [List.map_cons]; unfold D.pures; rw [ih]; unfold ptK D.pure; rw [pr_pure]; rfl
  alike := fun d hd e he => by
    obtain ⟨f, _, rfl⟩ := List.mem_map.mp hd
    obtain ⟨g, _, rfl⟩ := List.mem_map.mp he
    rw [ptK_data, ptK_data]
    unfold PySem.W.alike
    exact pr_alike f g
  sortable := .inl fun d hd => by
    rw [List.map_map] at hd
    obtain ⟨k, hk, rfl⟩ := List.mem_map.mp hd
    cases k with
    | nil => exact absurd rfl (h0 _ hk)
    | cons p k => exact ⟨_, _, ptK_data (p :: k)⟩
  deep := fun d hd => by
    obtain ⟨k, _, rfl⟩ := List.mem_map.mp hd
    rw [ptK_data]
    have := pr_depth k
    unfold PyData.depth
    omega
  len := by rw [List.length_map]; exact Nat.le_trans h (sz5 (by decide))
theorem matchA_ne {a : Atom} {f : Fact} (h2 : a.ps ≠ []) (h4 : ∀ p ∈ a.ps, p.1 = true) : matchA a f [] ≠ some [] := fun h => by
  cases hp : a.ps with
  | nil => exact h2 hp
  | cons p ps =>
    unfold matchA at h
    split at h
    · rename_i hl
      rw [hp] at h hl
      cases ht : f.ts with
      | nil => rw [ht] at hl; cases hl.2
      | cons t ts =>
        rw [ht, List.zip_cons_cons] at h
        have := matchP_get _ _ _ h (p, t) List.mem_cons_self (h4 p (by rw [hp]; exact List.mem_cons_self))
        cases this
    · cases h
def m_fillings : M := fun ds S Q E => ∃ (L : Told) (a : Atom), ds = [toldD L, a.d] ∧ L.length ≤ 2000 ∧ a.ps ≠ [] ∧ a.ps.length ≤ 10 ∧ (∀ p ∈ a.ps, p.1 = true) ∧
  ∀ (ks : List Kn) S', Sub S S' → (∀ k ∈ ks, ∃ f ∈ tfs L, ∃ k0, matchA a f [] = some k0 ∧ k.Perm k0) → (∀ f ∈ tfs L, ∀ k0, matchA a f [] = some k0 → ∃ k ∈ ks, k.Perm k0) → ks.length ≤ 2000 → Q (.lst (ks.map ptK)) S'
theorem d_fillings (Z : Zf P w K mg base) : Ca P w K mg base 3 "fillings" ["told", "atom"] m_fillings := by
  obtain ⟨fd, F, hb⟩ := Z.F_fillings
  refine ⟨_, fd, df_of (k := 2) F sc_fillings (fun cdv A outer s H E F0 E' B => (dss_cons (ds_setLc 2 rfl nd_fillings rfl rfl (sw_true rfl rfl rfl (by decide +kernel)) (di_tup (dv 0)) (blkOk_by (own := [("entry", 3)]) (N := N_fillings) (sc := defScope st_fillings) (by decide +kernel)) (fun _ _ _ _ _ => pg_name (i := 3) nd_fillings rfl (Or.inl rfl)) (fun _ _ _ _ _ => dts_nil) (fun _ _ _ _ _ => (de_ca (d_matched Z) (B.blk.mono (by omega)) rfl (da_cons (dv 1) (da_cons (de_ix (dv 3) de_int) (da_cons (de_lck de_dnew) da_nil))))))
    (dss_one (ds_ret (de_cB (oc_sortL (hu65 B.room)) rfl Z.f_sorted bb_sorted (da_cons (de_lc rfl nd_fillings (di_lst (dv 2)) (blkOk_by (own := [("known", 4)]) (N := N_fillings) (sc := defScope st_fillings) (by decide +kernel)) (fun _ _ _ _ _ => pg_name (i := 4) nd_fillings rfl (Or.inl rfl)) (fun _ _ _ _ _ => (dts_one (dt_notN (dv 4)))) (fun _ _ _ _ _ => (de_cT oc_tupP rfl Z.f_tuple bb_tuple (da_cons (de_sortItems (hu65 B.blk.room) rfl rfl Z.f_sorted (dv 4)) da_nil)))) da_nil)))))) ?_, Z.g_fillings, F.kp, hb⟩
  rintro ds S Q E hl ⟨L, a, rfl, h1, h2, h3, h4, hq⟩
  rw [show startD N_fillings [toldD L, a.d] = [some (toldD L), some a.d, none, none, none] from rfl]
  clear hl
  refine seq_cut (fun ρ S1 => ρ = [some (toldD L), some a.d, some (.lst (L.map fun e => oKn (matchA a e.1 []))), none, none] ∧ Sub S S1) (fun Rest hR => ?_) ?_
  · unfold toldD
    walk_at "nd"
    refine lc_ind (fun ds acc S' => ∃ r done : Told, L = done ++ r ∧ ds = r.map (fun e => .tup (e.1.d :: e.2)) ∧ acc = done.map (fun e => oKn (matchA a e.1 [])) ∧ Sub S S') ?_ ?_ _ _ _ ⟨L, [], rfl, rfl, rfl, Sub.refl S⟩
    · rintro acc S' ⟨r, done, e0, e1, rfl, hs⟩
      cases r with
      | cons e r => cases e1
      | nil =>
        rw [List.append_nil] at e0
        subst e0
        exact hR _ _ ⟨rfl, hs⟩
    · rintro d ds acc S' W hW ⟨r, done, e0, e1, rfl, hs⟩
      cases r with
      | nil => cases e1
      | cons e r =>
        injection e1 with e1 e2
        subst e1 e2
        show tdYes [some (D.tup (L.map fun e => D.tup (e.1.d :: e.2))), some a.d, none, some (.tup (e.1.d :: e.2)), none] S' _
        walk_at "nd"
        intro p0 hp0
        rw [sdel_sup hp0]
        refine ⟨a, e.1, [], rfl, by rw [List.length_nil]; omega, h4, fun S2 hs2 => ⟨?_, hW _ _ ⟨r, done ++ [e], by rw [List.append_assoc]; exact e0, rfl, by rw [List.map_append]; rfl, hs.trans hs2⟩⟩⟩
        rw [e0, List.length_append] at h1
        exact Nat.lt_of_lt_of_le (show done.length < 100001 by omega) (sz5 (by decide))
  rintro ρ S1 ⟨rfl, hs⟩
  walk_at "nd"
  refine lc_ind (fun ds acc S' => ∃ (r : Told) (ks : List Kn), ds = r.map (fun e => oKn (matchA a e.1 [])) ∧ acc = ks.map ptK ∧ S' = S1 ∧ (∀ k ∈ ks, ∃ f ∈ tfs L, ∃ k0, matchA a f [] = some k0 ∧ k.Perm k0) ∧
    (∀ f ∈ tfs L, ∀ k0, matchA a f [] = some k0 → f ∈ tfs r ∨ ∃ k ∈ ks, k.Perm k0) ∧ ks.length + r.length ≤ 2000 ∧ ∀ e ∈ r, e ∈ L) ?_ ?_ _ _ _ ⟨L, [], rfl, rfl, rfl, fun _ h => (nomatch h), fun f hf k0 _ => .inl hf, by simpa using h1, fun _ h => h⟩
  · rintro acc S' ⟨r, ks, e0, rfl, rfl, k1, k2, k3, k4⟩
    cases r with
    | cons e r => cases e0
    | nil =>
      refine ⟨_, rfl, _, rfl, ptK_sort (by omega) fun k hk e => ?_, fun es pe => ?_⟩
      · obtain ⟨f, hf, k0, g1, g2⟩ := k1 k hk
        rw [e] at g2
        have : k0 = [] := g2.nil_eq.symm
        rw [this] at g1
        exact matchA_ne h2 h4 g1
      · obtain ⟨ks', pk, rfl⟩ := perm_map pe
        refine fini (hq ks' _ hs (fun k hk => k1 k (pk.mem_iff.mp hk)) (fun f hf k0 hm => ?_) (by rw [pk.length_eq]; simpa using k3))
        rcases k2 f hf k0 hm with z | ⟨k, z, z2⟩
        · cases z
        · exact ⟨k, pk.mem_iff.mpr z, z2⟩
  · rintro d ds acc S1 W hW ⟨r, ks, e0, rfl, rfl, k1, k2, k3, k4⟩
    cases r with
    | nil => cases e0
    | cons e r =>
      injection e0 with e0 e1
      subst e0 e1
      rw [List.length_cons] at k3
      cases hm : matchA a e.1 [] with
      | none =>
        show tdB (tdNotN (tdV 4)) [some (toldD L), some a.d, some (D.lst (List.map (fun e => oKn (matchA a e.fst [])) L)), none, some (oKn (matchA a e.1 []))] S1 _
        rw [hm]
        refine ⟨_, rfl, _, rfl, iteF ?_⟩
        refine hW _ _ ⟨r, ks, rfl, rfl, rfl, k1, fun f hf k0 h0 => ?_, by omega, fun x hx => k4 x (List.mem_cons_of_mem _ hx)⟩
        rcases k2 f hf k0 h0 with z | z
        · rcases List.mem_cons.mp z with z | z
          · rw [z, hm] at h0
            cases h0
          · exact .inl z
        · exact .inr z
      | some k0 =>
        show tdB (tdNotN (tdV 4)) [some (toldD L), some a.d, some (D.lst (List.map (fun e => oKn (matchA a e.fst [])) L)), none, some (oKn (matchA a e.1 []))] S1 _
        rw [hm]
        have hk0 := matchA_len hm
        rw [List.length_nil] at hk0
        refine ⟨_, rfl, _, rfl, iteT ?_⟩
        show tdCB gTupP (tdCons (tdSortItems (tdV 4)) tdNil) [some (toldD L), some a.d, some (D.lst (List.map (fun e => oKn (matchA a e.fst [])) L)), none, some (oKn (matchA a e.1 []))] S1 _
        rw [hm]
        refine ⟨_, rfl, _, _, rfl, by rw [List.length_map, List.length_map], ?_, fun es' pe => ?_⟩
        · rw [it_kn]
          exact kn_sort (by omega)
        · rw [it_kn] at pe
          obtain ⟨k, pk, rfl⟩ := perm_map pe
          refine ⟨_, _, rfl, rfl, ?_, ?_⟩
          · rw [List.length_map]
            exact Nat.lt_of_lt_of_le (show ks.length < 100001 by omega) (sz5 (by decide))
          · refine hW _ _ ⟨r, ks ++ [k], rfl, by rw [List.map_append]; rfl, rfl, fun x hx => ?_, fun f hf k2' h0 => ?_, by rw [List.length_append]; show ks.length + 1 + _ ≤ _; omega, fun x hx => k4 x (List.mem_cons_of_mem _ hx)⟩
            · rcases List.mem_append.mp hx with hx | hx
              · exact k1 x hx
              · rw [List.mem_singleton.mp hx]
                exact ⟨e.1, List.mem_map_of_mem (k4 e List.mem_cons_self), k0, hm, pk⟩
            · rcases k2 f hf k2' h0 with z | ⟨x, z, z2⟩
              · rcases List.mem_cons.mp z with z | z
                · rw [z, hm] at h0
                  cases h0
                  exact .inr ⟨k, List.mem_append.mpr (.inr (List.mem_singleton.mpr rfl)), pk⟩
                · exact .inl z
              · exact .inr ⟨x, List.mem_append.mpr (.inl z), z2⟩
end K07
namespace K07
open PySem PySem.Spec L2 DL
local macro_rules | `(tactic| walk_at "nd") => `(tactic| simp only [icO, isN0, gStr, tdiE, tdiZT, gSortND, gSortL, gSortDX, tdListVals, tdSortItems, tdiVals, gDictC, tdLck, tdSetd, tdExt, gIntT, tdTruT, tdRaise0, gTupP, tdPt, gDictT, tdLc2T, tdLcN, gLenN, tdValsI, tdSortSet, gCatB, gEq_bb, tdLcB, tdDNew, tdNNew, tdNGet, tdNPut, tdFGet, tdiF, tdDctF, tdDc, tdDcN, tdTru, tdDAugG, tdDictZ, tdCallV, tdLc2, ln_4, ln_5, ln_6, fmod_2, fdiv_2, gAddT, tdIdx, gdUnl, tdiD, gSortI, gMin2, gMax2, gTuple, gDictP, tdLcT, lcT, setD, unsetD, tdKGet, tdKGet2, tdGet2, tdPop, tdSeq, tdAsg, tdV, gdName, tdAnd, tdOr, tdNot, tdB, tdOp, tdCB, tdCons, tdNil, tdC, tdAug, tdSl, tdP, tdRet, tdTup, tdIf, tdIfS, gOrd, gI0, gI, gLen, gIx, gAdd, gInt, vw, ixP, gSl, tdDrop, tdRetN, tdNext, gIn_sc, gIn_ts, gIn_ls, gIn_t2, gIn_l2, gIn_l4, tdApp, sl_0, sl_1, sl_2, sl_3, sl_4, sl_5, ff, tt', true_and, id,
  eqS, tdFor, tdiT, tdiL, tdiR, tdXp, gList, gEq_ns, tdJoin, gJoin, vwS, gMul, gMod, gDiv, gPow, gI, tdAugS, gdSub, gSet, ixN_2, ixN_3, atI_3, atI_4, gEq_ss, gEq_ii, tdDict, tdPairs, tdNeg, Option.isNone_none, Option.isNone_some, gIsi, tdGet, tdDPut, tdDAug, tdIsN, tdNotN, DO.dic.injEq, Option.isNone_none, Option.isNone_some, gIn_l2, gIn_t2, Option.getD_some, tdLc, gMax, tdNoP, forR, tdRaise, tdCall, tdNotV, tdAndV, tdOrV, tdBox, tdZ, gdTup, gdCons, gdNil, tdBreak, tdCont, tdYes, icast, icast1, icast2, icast3, tdLst, gIn_l4, icastL, icastE, icastZ, ln_0, ln_1, ln_2, ln_3,
  List.getElem?_cons_zero, List.getElem?_cons_succ, List.set_cons_zero, List.set_cons_succ, Option.some.injEq, exists_eq_left', exists_eq_left, D.bl.injEq, decide_eq_true_eq,
  tdFldC, tdMeth, tdMake, tdPutF, tdAugF, D.ref.injEq, DO.ins.injEq, and_assoc, DL.gSub, D.int.injEq, D.str.injEq, sup_same, eq_self, not_true_eq_false, not_false_eq_true, Bool.false_eq_true, Bool.not_eq_true, decide_not, atIn, atI_0, atI_1, atI_2, List.getElem?_map, Option.map_some, Option.map_none, decide_true, decide_false, Bool.not_true, Bool.not_false, if_true, if_false, lm_0, lm_1, lm_2, List.length_map, exists_and_left, *])
variable {P : Program} {w : World} {K : PySem.W.Frag} {mg : Str → Option Value} {base : Heap}
theorem num_int : ∀ n < 200, PySem.intText? (tS (numT n)) = some ((n : Nat) : Int) := by decide +kernel
theorem num_len : ∀ n < 200, (numT n).length ≤ 640 := by decide +kernel
theorem numT_inj {a b : Nat} (h1 : a < 200) (h2 : b < 200) (h : numT a = numT b) : a = b := by
  have e1 := num_int a h1
  rw [h, num_int b h2] at e1
  have e2 : ((b : Nat) : Int) = ((a : Nat) : Int) := Option.some.inj e1
  omega
def txA : Tx := tx "A"
def txB : Tx := tx "B"
def kAB (x y : Tx) : Kn := [(txA, x), (txB, y)]
def atAB (word : Tx) : Atom := ⟨word, [(true, txA), (true, txB)]⟩
theorem match_AB {word x y : Tx} : matchA (atAB word) ⟨word, [x, y]⟩ [] = some (kAB x y) := by
  have e : (txB == txA) = false := by decide
  unfold matchA atAB
  rw [if_pos ⟨rfl, rfl⟩]
  simp [matchP, kAB, List.lookup, e]
theorem match_w {a : Atom} {f : Fact} {k k' : Kn} (h : matchA a f k = some k') : a.w = f.w ∧ a.ps.length = f.ts.length := by
  unfold matchA at h
  split at h
  · assumption
  · cases h
theorem perm2 {α : Type} {a b : α} {l : List α} (h : l.Perm [a, b]) : l = [a, b] ∨ l = [b, a] := by
  have hl := h.length_eq
  match l, hl with
  | [x, y], _ =>
    have hx := h.mem_iff.mp (List.mem_cons_self (a := x))
    rcases List.mem_cons.mp hx with rfl | hx
    · have := (List.perm_cons x).mp h
      rw [List.perm_singleton] at this
      cases this
      exact .inl rfl
    · have e := List.mem_singleton.mp hx
      subst e
      have := (h.trans (List.Perm.swap _ _ _)).cons_inv
      rw [List.perm_singleton] at this
      cases this
      exact .inr rfl
structure IsAB (k : Kn) (x y : Tx) : Prop where
  a : k.lookup txA = some x
  b : k.lookup txB = some y
  n : ((kd k).map (·.1)).Nodup
  l : k.length = 2
theorem isAB {k : Kn} {x y : Tx} (h : k.Perm (kAB x y)) : IsAB k x y := by
  have e1 : (txB == txA) = false := by decide
  have e2 : (txA == txB) = false := by decide
  have e3 : txA ≠ txB := by decide
  rcases perm2 h with rfl | rfl
  · exact ⟨by simp [List.lookup], by simp [List.lookup, e1], by simp [kd, e3], rfl⟩
  · exact ⟨by simp [List.lookup, e2], by simp [List.lookup], by simp [kd, e3.symm], rfl⟩
theorem pr_pairs : ∀ k : Kn, pairsD (prKn k) = some (kd k)
  | [] => rfl
  | p :: k => by
    show (pairsD (prKn k)).map _ = _
    rw [pr_pairs k]
    rfl
def decT (o : Option Tx) : Nat := ((PySem.intText? (tS (o.getD []))).getD 0).toNat
def pK (k : Kn) : Nat × Nat := (decT (k.lookup txA), decT (k.lookup txB))
theorem pK_AB {k : Kn} {i j : Nat} (h : IsAB k (numT i) (numT j)) (hi : i < 200) (hj : j < 200) : pK k = (i, j) := by
  unfold pK decT
  rw [h.a, h.b]
  show (((PySem.intText? (tS (numT i))).getD 0).toNat, ((PySem.intText? (tS (numT j))).getD 0).toNat) = _
  rw [num_int i hi, num_int j hj]
  rfl
def m_pairs : M := fun ds S Q E => ∃ (L : Told) (word : Tx), ds = [toldD L, .str word] ∧ L.length ≤ 2000 ∧ (∀ f ∈ tfs L, f.w = word → ∃ i j, i < 200 ∧ j < 200 ∧ f.ts = [numT i, numT j]) ∧
  ∀ (ps : List (Nat × Nat)) S', Sub S S' → (∀ i j, (i, j) ∈ ps ↔ i < 200 ∧ j < 200 ∧ ⟨word, [numT i, numT j]⟩ ∈ tfs L) → ps.length ≤ 2000 → Q (.lst (ps.map DL.prD)) S'
theorem d__law_pairs (Z : Zf P w K mg base) : Ca P w K mg base 4 "_law_pairs" ["told", "word"] m_pairs := by
  obtain ⟨fd, F, hb⟩ := Z.F__law_pairs
  refine ⟨_, fd, df_of (k := 3) F sc__law_pairs (fun cdv A outer s H E F0 E' B => (dss_cons (ds_set 2 nd__law_pairs (de_ca (d_fillings Z) (B.mono (by omega)) rfl (da_cons (dv 0) (da_cons (de_tup (da_cons (dv 1) (da_cons (de_tup (da_cons (de_tup (da_cons de_str (da_cons de_str da_nil))) (da_cons (de_tup (da_cons de_str (da_cons de_str da_nil))) da_nil))) da_nil))) da_nil))))
    (dss_one (ds_ret (de_lc rfl nd__law_pairs (di_lst (dv 2)) (blkOk_by (own := [("one", 3)]) (N := N__law_pairs) (sc := defScope st__law_pairs) (by decide +kernel)) (fun _ _ _ _ _ => pg_name (i := 3) nd__law_pairs rfl (Or.inl rfl)) (fun _ _ _ _ _ => dts_nil) (fun _ _ _ _ _ => (de_tup (da_cons (de_cT oc_intT rfl Z.f_int bb_int (da_cons (de_fget (hu65 B.blk.room) (de_cT (oc_dictT rfl) rfl Z.f_dict bb_dict (da_cons (dv 3) da_nil)) de_str) da_nil)) (da_cons (de_cT oc_intT rfl Z.f_int bb_int (da_cons (de_fget (hu65 B.blk.room) (de_cT (oc_dictT rfl) rfl Z.f_dict bb_dict (da_cons (dv 3) da_nil)) de_str) da_nil)) da_nil))))))))) ?_, Z.g__law_pairs, F.kp, hb⟩
  rintro ds S Q E hl ⟨L, word, rfl, h1, h2, hq⟩
  rw [show startD N__law_pairs [toldD L, .str word] = [some (toldD L), some (.str word), none, none] from rfl]
  clear hl
  refine seq_cut (fun ρ S1 => ∃ ks : List Kn, ρ = [some (toldD L), some (.str word), some (.lst (ks.map ptK)), none] ∧ Sub S S1 ∧ (∀ k ∈ ks, ∃ i j, i < 200 ∧ j < 200 ∧ IsAB k (numT i) (numT j)) ∧ ks.length ≤ 2000 ∧
      ∀ i j, (i, j) ∈ ks.map pK ↔ i < 200 ∧ j < 200 ∧ ⟨word, [numT i, numT j]⟩ ∈ tfs L) (fun Rest hR => ?_) ?_
  · walk_at "nd"
    refine ⟨L, atAB word, rfl, h1, List.cons_ne_nil _ _, show 2 ≤ 10 by decide, ?_, fun ks S' hs k1 k2 k3 => ?_⟩
    · intro p hp
      simp [atAB] at hp
      rcases hp with rfl | rfl <;> rfl
    have hk : ∀ k ∈ ks, ∃ i j, i < 200 ∧ j < 200 ∧ IsAB k (numT i) (numT j) ∧ ⟨word, [numT i, numT j]⟩ ∈ tfs L := fun k hk => by
      obtain ⟨f, hf, k0, g1, g2⟩ := k1 k hk
      obtain ⟨g3, g4⟩ := match_w g1
      obtain ⟨i, j, hi, hj, e⟩ := h2 f hf g3.symm
      have ef : f = ⟨word, [numT i, numT j]⟩ := by
        obtain ⟨fw, ft⟩ := f
        have e1 : word = fw := g3
        have e2 : ft = [numT i, numT j] := e
        rw [e1, e2]
      rw [ef, match_AB] at g1
      cases g1
      exact ⟨i, j, hi, hj, isAB g2, by rw [← ef]; exact hf⟩
    refine hR _ _ ⟨ks, rfl, hs, fun k h => ?_, k3, fun i j => ⟨fun z => ?_, fun ⟨hi, hj, z⟩ => ?_⟩⟩
    · obtain ⟨i, j, hi, hj, g, _⟩ := hk k h
      exact ⟨i, j, hi, hj, g⟩
    · obtain ⟨k, h, e⟩ := List.mem_map.mp z
      obtain ⟨i', j', hi, hj, g, hm⟩ := hk k h
      rw [pK_AB g hi hj] at e
      cases e
      exact ⟨hi, hj, hm⟩
    · obtain ⟨k, h, hp⟩ := k2 _ z _ match_AB
      exact List.mem_map.mpr ⟨k, h, pK_AB (isAB hp) hi hj⟩
  rintro ρ S1 ⟨ks, rfl, hs, k1, k2, k3⟩
  walk_at "nd"
  refine lcR_map ptK (fun k => DL.prD (pK k)) ks [] S1 (fun k hk Q' q => ?_) (by rw [List.length_nil]; omega) ?_
  · obtain ⟨i, j, hi, hj, g⟩ := k1 k hk
    rw [pK_AB g hi hj] at q
    show tdTup _ [some (toldD L), some (.str word), some (.lst (ks.map ptK)), some (ptK k)] S1 Q'
    walk_at "nd"
    have hkl : (kd k).length ≤ 100000 := by rw [kd_len, g.l]; decide
    have gf : ∀ {x v : Tx}, k.lookup x = some v → getF ((kd k).map (·.1)) ((kd k).map (·.2)) (.inr x) = some (.str v) := fun h => by
      have := kn_get h
      unfold kd
      rw [List.map_map, List.map_map]
      exact this
    exact ⟨_, rfl, _, pr_pairs k, g.n, hkl, _, _, rfl, .inr txA, rfl, .str (numT i), gf g.a, _, rfl, _, num_int i hi, num_len i hi, _, rfl, _, pr_pairs k, g.n, hkl, _, _, rfl, .inr txB, rfl, .str (numT j), gf g.b, _, rfl, _, num_int j hj, num_len j hj, q⟩
  · have e : ks.map (fun k => DL.prD (pK k)) = (ks.map pK).map DL.prD := by rw [List.map_map]; rfl
    rw [List.nil_append, e]
    exact fini (hq _ _ hs k3 (by rw [List.length_map]; exact k2))
end K07
namespace K07
open PySem PySem.Spec L2 DL
def fct (x : Tx) (a b : Nat) : Fact := ⟨x, [numT a, numT b]⟩
theorem gateL_get {st : Nat} : ∀ {g : List (Nat × Nat)} {k i : Nat} {p : Nat × Nat}, g[i]? = some p → (nameG (k + i) 0, factR (tx "feeds") (p.1 / 2) (st + (k + i))) ∈ gateL st k g ∧ (nameG (k + i) 1, factR (tx "feeds") (p.2 / 2) (st + (k + i))) ∈ gateL st k g
  | [], k, i, p, h => by cases h
  | q :: g, k, 0, p, h => by
    cases h
    exact ⟨List.mem_cons_self, List.mem_cons_of_mem _ List.mem_cons_self⟩
  | q :: g, k, i + 1, p, h => by
    have := gateL_get (st := st) (g := g) (k := k + 1) (i := i) (p := p) h
    rw [show k + 1 + i = k + (i + 1) by omega] at this
    exact ⟨List.mem_cons_of_mem _ (List.mem_cons_of_mem _ this.1), List.mem_cons_of_mem _ (List.mem_cons_of_mem _ this.2)⟩
theorem gateL_of {st : Nat} : ∀ {g : List (Nat × Nat)} {k : Nat} {r : Tx × Rule}, r ∈ gateL st k g → ∃ i p, g[i]? = some p ∧ (r.2 = factR (tx "feeds") (p.1 / 2) (st + (k + i)) ∨ r.2 = factR (tx "feeds") (p.2 / 2) (st + (k + i)))
  | [], k, r, h => by cases h
  | q :: g, k, r, h => by
    rcases List.mem_cons.mp h with rfl | h
    · exact ⟨0, q, rfl, .inl rfl⟩
    · rcases List.mem_cons.mp h with rfl | h
      · exact ⟨0, q, rfl, .inr rfl⟩
      · obtain ⟨i, p, h1, h2⟩ := gateL_of h
        rw [show k + 1 + i = k + (i + 1) by omega] at h2
        exact ⟨i + 1, p, h1, h2⟩
theorem nextL_get {ni : Nat} : ∀ {g : List Nat} {k i l : Nat}, g[i]? = some l → (nameN (k + i), factR (tx "next") (l / 2) (1 + ni + (k + i))) ∈ nextL ni k g
  | [], k, i, p, h => by cases h
  | q :: g, k, 0, p, h => by
    cases h
    exact List.mem_cons_self
  | q :: g, k, i + 1, p, h => by
    have := nextL_get (ni := ni) (g := g) (k := k + 1) (i := i) (l := p) h
    rw [show k + 1 + i = k + (i + 1) by omega] at this
    exact List.mem_cons_of_mem _ this
theorem nextL_of {ni : Nat} : ∀ {g : List Nat} {k : Nat} {r : Tx × Rule}, r ∈ nextL ni k g → ∃ i l, g[i]? = some l ∧ r.2 = factR (tx "next") (l / 2) (1 + ni + (k + i))
  | [], k, r, h => by cases h
  | q :: g, k, r, h => by
    rcases List.mem_cons.mp h with rfl | h
    · exact ⟨0, q, rfl, rfl⟩
    · obtain ⟨i, p, h1, h2⟩ := nextL_of h
      rw [show k + 1 + i = k + (i + 1) by omega] at h2
      exact ⟨i + 1, p, h1, h2⟩
theorem fill_fact (x : Tx) (a b : Nat) (k : Kn) : fillA (factR x a b).h k = fct x a b := rfl
theorem fact_body (x : Tx) (a b : Nat) : (factR x a b).b = [] := rfl
theorem netL_len {n : Net} (hn : n.ok) : (netL n).length ≤ 87 := by
  unfold netL
  rw [List.length_append, List.length_append, gateL_len, nextL_len]
  have := hn.g1
  have := hn.n1
  have := hn.f2
  show _ + 3 ≤ _
  omega
theorem netL_cases {n : Net} {r : Tx × Rule} (h : r ∈ netL n) : (∃ x a b, r.2 = factR x a b) ∨ r.2 = rOwn ∨ r.2 = rMore ∨ r.2 = rLate := by
  unfold netL at h
  rcases List.mem_append.mp h with h | h
  · rcases List.mem_append.mp h with h | h
    · obtain ⟨i, p, _, h⟩ := gateL_of h
      rcases h with h | h
      · exact .inl ⟨_, _, _, h⟩
      · exact .inl ⟨_, _, _, h⟩
    · obtain ⟨i, p, _, h⟩ := nextL_of h
      exact .inl ⟨_, _, _, h⟩
  · unfold lawL at h
    simp only [List.mem_cons, List.not_mem_nil, or_false] at h
    rcases h with rfl | rfl | rfl
    · exact .inr (.inl rfl)
    · exact .inr (.inr (.inl rfl))
    · exact .inr (.inr (.inr rfl))
theorem words_le : ∀ {L : Rules}, (∀ p ∈ L, p.2.words.length ≤ 3) → (wordsOf L).length ≤ 3 * L.length
  | [], _ => Nat.zero_le _
  | p :: L, h => by
    unfold wordsOf
    rw [List.flatMap_cons, List.length_append, List.length_cons]
    have h1 := h p List.mem_cons_self
    have h2 := words_le (L := L) fun q hq => h q (List.mem_cons_of_mem _ hq)
    unfold wordsOf at h2
    omega
theorem netL_fits {n : Net} (hn : n.ok) : Fits (netL n) where
  n := by have := netL_len hn; omega
  w := by
    have h1 := netL_len hn
    have h2 := words_le (L := netL n) fun p hp => by
      rcases netL_cases hp with ⟨x, a, b, e⟩ | e | e | e <;> rw [e]
      · exact show 1 ≤ 3 by decide
      · decide
      · decide
      · decide
    omega
  b := fun p hp => by
    rcases netL_cases hp with ⟨x, a, b, e⟩ | e | e | e <;> rw [e]
    · exact ⟨Nat.zero_le _, show 2 ≤ 10 by decide, fun a h => nomatch h⟩
    · decide
    · decide
    · decide
  nd := netL_nodup hn
  s := fun p hp => by
    rcases netL_cases hp with ⟨x, a, b, e⟩ | e | e | e <;> rw [e]
    · exact fun x h => nomatch h
    · decide
    · decide
    · decide
  a := fun p hp => by
    rcases netL_cases hp with ⟨x, a, b, e⟩ | e | e | e <;> rw [e]
    · exact fun x h => nomatch h
    · decide
    · decide
    · decide
/-- one open pair of names -/
theorem match2 {word p q x y : Tx} {k : Kn} (h0 : q ≠ p) (h1 : k.lookup p = none) (h2 : k.lookup q = none) :
    matchA ⟨word, [(true, p), (true, q)]⟩ ⟨word, [x, y]⟩ k = some (k ++ [(p, x), (q, y)]) := by
  have e : (q == p) = false := beq_eq_false_iff_ne.mpr h0
  unfold matchA
  rw [if_pos ⟨rfl, rfl⟩]
  simp [matchP, h1, h2, List.lookup_append, List.lookup, e]
theorem match1 {word p q x y v : Tx} {k : Kn} (h1 : k.lookup p = some v) (h2 : k.lookup q = none) :
    matchA ⟨word, [(true, p), (true, q)]⟩ ⟨word, [x, y]⟩ k = if v = x then some (k ++ [(q, y)]) else none := by
  unfold matchA
  rw [if_pos ⟨rfl, rfl⟩]
  simp [matchP, h1, h2]
def xX : Tx := tx "X"
def xY : Tx := tx "Y"
def xZ : Tx := tx "Z"
theorem fill_own (x y : Tx) : fillA rOwn.h [(xX, x), (xY, y)] = ⟨tx "leads", [x, y]⟩ := rfl
theorem fill_more (x y z : Tx) : fillA rMore.h [(xX, x), (xY, y), (xZ, z)] = ⟨tx "leads", [x, z]⟩ := rfl
theorem fill_late (x y z : Tx) : fillA rLate.h [(xX, x), (xY, y), (xZ, z)] = ⟨tx "turns", [x, z]⟩ := rfl
/-- what holds of all facts -/
structure Good (f : Fact) : Prop where
  t : ∃ i j, i < 200 ∧ j < 200 ∧ f.ts = [numT i, numT j] ∧ (f.w = tx "feeds" ∨ f.w = tx "leads" → i < j)
theorem good_f {f : Fact} {x : Tx} (h : Good f) (hw : x = f.w) : ∃ i j, i < 200 ∧ j < 200 ∧ f = fct x i j ∧ (x = tx "feeds" ∨ x = tx "leads" → i < j) := by
  obtain ⟨i, j, hi, hj, e, ho⟩ := h.t
  refine ⟨i, j, hi, hj, ?_, fun z => ho (by rw [← hw]; exact z)⟩
  obtain ⟨fw, ft⟩ := f
  have e1 : x = fw := hw
  have e2 : ft = [numT i, numT j] := e
  rw [e1, e2]
  rfl
theorem good_of {x : Tx} {i j : Nat} (hi : i < 200) (hj : j < 200) (h : x = tx "feeds" ∨ x = tx "leads" → i < j) : Good (fct x i j) := ⟨i, j, hi, hj, rfl, h⟩
theorem way1 {gs : List Fact} {a : Atom} {k : Kn} (h : Way gs [a] [] k) : ∃ f ∈ gs, matchA a f [] = some k := by
  obtain ⟨f, hf, k1, h1, h2⟩ := h
  rw [show k = k1 from h2]
  exact ⟨f, hf, h1⟩
theorem way2 {gs : List Fact} {a b : Atom} {k : Kn} (h : Way gs [a, b] [] k) : ∃ f ∈ gs, ∃ g ∈ gs, ∃ k1, matchA a f [] = some k1 ∧ matchA b g k1 = some k := by
  obtain ⟨f, hf, k1, h1, g, hg, k2, h2, h3⟩ := h
  rw [show k = k2 from h3]
  exact ⟨f, hf, g, hg, k1, h1, h2⟩
/-- two steps in a row -/
theorem two_steps {gs : List Fact} (hg : ∀ g ∈ gs, Good g) {u v : Tx} {k : Kn} (h : Way gs [⟨u, [(true, xX), (true, xY)]⟩, ⟨v, [(true, xY), (true, xZ)]⟩] [] k) :
    ∃ a b c, a < 200 ∧ b < 200 ∧ c < 200 ∧ (u = tx "feeds" ∨ u = tx "leads" → a < b) ∧ (v = tx "feeds" ∨ v = tx "leads" → b < c) ∧ k = [(xX, numT a), (xY, numT b), (xZ, numT c)] := by
  obtain ⟨f, hf, g, hgm, k1, h1, h2⟩ := way2 h
  obtain ⟨a, b, ha, hb, e1, o1⟩ := good_f (hg f hf) (match_w h1).1
  obtain ⟨b', c, hb', hc, e2, o2⟩ := good_f (hg g hgm) (match_w h2).1
  rw [e1] at h1
  rw [e2] at h2
  unfold fct at h1 h2
  have o3 : u = tx "feeds" ∨ u = tx "leads" → a < b := o1
  have o4 : v = tx "feeds" ∨ v = tx "leads" → b' < c := o2
  rw [match2 (by decide) rfl rfl] at h1
  cases h1
  rw [match1 (v := numT b) rfl rfl] at h2
  split at h2
  · rename_i eb
    have := numT_inj hb hb' eb
    subst this
    cases h2
    exact ⟨a, b, c, ha, hb, hc, o3, o4, rfl⟩
  · cases h2
theorem keeps_good {n : Net} (hn : n.ok) : Keeps (netL n) Good := by
  intro p hp gs hg k hk
  unfold netL at hp
  have hsz : n.size ≤ 60 := by
    have := hn.g1; have := hn.i2; have := hn.f2
    unfold Net.size Net.start
    omega
  rcases List.mem_append.mp hp with h | h
  · rcases List.mem_append.mp h with h | h
    · obtain ⟨i, q, hi, h⟩ := gateL_of h
      obtain ⟨q1, q2⟩ := hn.g2 i q hi
      have : i < n.gs.length := (List.getElem?_eq_some_iff.mp hi).1
      unfold Net.size at hsz
      rcases h with h | h
      · rw [h, fill_fact]
        exact good_of (by omega) (by omega) fun _ => by omega
      · rw [h, fill_fact]
        exact good_of (by omega) (by omega) fun _ => by omega
    · obtain ⟨i, l, hi, h⟩ := nextL_of h
      have h1 := hn.n2 l (List.mem_of_getElem? hi)
      have : i < n.ns.length := (List.getElem?_eq_some_iff.mp hi).1
      have := hn.n1; have := hn.f2; have := hn.i2
      rw [h, fill_fact]
      refine good_of (by omega) (by omega) fun z => ?_
      rcases z with z | z
      · exact absurd z (by decide)
      · exact absurd z (by decide)
  · unfold lawL at h
    simp only [List.mem_cons, List.not_mem_nil, or_false] at h
    rcases h with rfl | rfl | rfl
    · obtain ⟨f, hf, h1⟩ := way1 hk
      obtain ⟨a, b, ha, hb, e1, o1⟩ := good_f (hg f hf) (match_w h1).1
      rw [e1] at h1
      unfold fct at h1
      have o2 : a < b := o1 (.inl rfl)
      have h3 : matchA ⟨tx "feeds", [(true, xX), (true, xY)]⟩ ⟨tx "feeds", [numT a, numT b]⟩ [] = some k := h1
      rw [match2 (by decide) rfl rfl] at h3
      cases h3
      show Good (fillA rOwn.h [(xX, numT a), (xY, numT b)])
      rw [fill_own]
      exact good_of ha hb fun _ => o2
    · obtain ⟨a, b, c, ha, hb, hc, o1, o2, rfl⟩ := two_steps hg (u := tx "feeds") (v := tx "leads") hk
      show Good (fillA rMore.h _)
      rw [fill_more]
      have := o1 (.inl rfl)
      have := o2 (.inr rfl)
      exact good_of ha hc fun _ => by omega
    · obtain ⟨a, b, c, ha, hb, hc, o1, o2, rfl⟩ := two_steps hg (u := tx "leads") (v := tx "next") hk
      show Good (fillA rLate.h _)
      rw [fill_late]
      refine good_of ha hc fun z => ?_
      rcases z with z | z
      · exact absurd z (by decide)
      · exact absurd z (by decide)
section
variable {n : Net} {T : List Fact}
theorem c_feeds (hc : Closed (netL n) T) {k : Nat} {p : Nat × Nat} (h : n.gs[k]? = some p) : fct (tx "feeds") (p.1 / 2) (n.start + k) ∈ T ∧ fct (tx "feeds") (p.2 / 2) (n.start + k) ∈ T := by
  obtain ⟨h1, h2⟩ := gateL_get (st := n.start) (k := 0) h
  rw [Nat.zero_add] at h1 h2
  have m1 : ∀ x ∈ gateL n.start 0 n.gs, x ∈ netL n := fun x hx => List.mem_append.mpr (.inl (List.mem_append.mpr (.inl hx)))
  exact ⟨hc _ (m1 _ h1) [] rfl, hc _ (m1 _ h2) [] rfl⟩
theorem c_next (hc : Closed (netL n) T) {k l : Nat} (h : n.ns[k]? = some l) : fct (tx "next") (l / 2) (1 + n.ni + k) ∈ T := by
  have h1 := nextL_get (ni := n.ni) (k := 0) h
  rw [Nat.zero_add] at h1
  exact hc _ (List.mem_append.mpr (.inl (List.mem_append.mpr (.inr h1)))) [] rfl
theorem law_mem {x : Tx × Rule} (h : x ∈ lawL) : x ∈ netL n := List.mem_append.mpr (.inr h)
theorem c_own (hc : Closed (netL n) T) {a b : Nat} (h : fct (tx "feeds") a b ∈ T) : fct (tx "leads") a b ∈ T :=
  hc (tx "own", rOwn) (law_mem List.mem_cons_self) [(xX, numT a), (xY, numT b)] ⟨_, h, _, match2 (by decide) rfl rfl, rfl⟩
theorem c_more (hc : Closed (netL n) T) {a b c : Nat} (h1 : fct (tx "feeds") a b ∈ T) (h2 : fct (tx "leads") b c ∈ T) : fct (tx "leads") a c ∈ T :=
  hc (tx "more", rMore) (law_mem (List.mem_cons_of_mem _ List.mem_cons_self)) [(xX, numT a), (xY, numT b), (xZ, numT c)]
    ⟨_, h1, _, match2 (by decide) rfl rfl, _, h2, _, (match1 (v := numT b) rfl rfl).trans (if_pos rfl), rfl⟩
theorem c_late (hc : Closed (netL n) T) {a b c : Nat} (h1 : fct (tx "leads") a b ∈ T) (h2 : fct (tx "next") b c ∈ T) : fct (tx "turns") a c ∈ T :=
  hc (tx "late", rLate) (law_mem (List.mem_cons_of_mem _ (List.mem_cons_of_mem _ List.mem_cons_self))) [(xX, numT a), (xY, numT b), (xZ, numT c)]
    ⟨_, h1, _, match2 (by decide) rfl rfl, _, h2, _, (match1 (v := numT b) rfl rfl).trans (if_pos rfl), rfl⟩
end
/-- a gate's inputs -/
def Fd (n : Net) (a b : Nat) : Prop := ∃ k p, n.gs[k]? = some p ∧ b = n.start + k ∧ (a = p.1 / 2 ∨ a = p.2 / 2)
inductive Pth (n : Net) : Nat → Nat → Prop
  | one {a b} : Fd n a b → Pth n a b
  | cons {a b c} : Fd n a b → Pth n b c → Pth n a c
theorem Pth.snoc {n : Net} {a b c : Nat} (h : Pth n a b) (g : Fd n b c) : Pth n a c := by
  induction h with
  | one h => exact .cons h (.one g)
  | cons h _ ih => exact .cons h (ih g)
theorem fd_feeds {n : Net} {T : List Fact} (hc : Closed (netL n) T) {a b : Nat} (h : Fd n a b) : fct (tx "feeds") a b ∈ T := by
  obtain ⟨k, p, h1, rfl, h2 | h2⟩ := h
  · rw [h2]; exact (c_feeds hc h1).1
  · rw [h2]; exact (c_feeds hc h1).2
theorem pth_leads {n : Net} {T : List Fact} (hc : Closed (netL n) T) {a b : Nat} (h : Pth n a b) : fct (tx "leads") a b ∈ T := by
  induction h with
  | one h => exact c_own hc (fd_feeds hc h)
  | cons h _ ih => exact c_more hc (fd_feeds hc h) ih
/-- nodes that v does not lead to do not change with it -/
theorem inf_take {n : Net} {f f' : List Bool} {v : Nat} (h1 : f.length = n.start) (h2 : f'.length = n.start) (hd : ∀ m, m ≠ v → f.getD m false = f'.getD m false) (hg : Gs n.start n.gs) :
    ∀ j, j ≤ n.gs.length → ∀ m, m < n.start + j → m ≠ v → ¬ Pth n v m → (gvals f (n.gs.take j)).getD m false = (gvals f' (n.gs.take j)).getD m false
  | 0, _, m, _, hm, _ => by
    rw [List.take_zero]
    exact hd m hm
  | j + 1, hj, m, hl, hm, hp => by
    have e : n.gs[j]? = some n.gs[j] := List.getElem?_eq_getElem hj
    rw [List.take_add_one, e]
    show (gvals f (n.gs.take j ++ [n.gs[j]])).getD m false = (gvals f' (n.gs.take j ++ [n.gs[j]])).getD m false
    rw [gvals_snoc, gvals_snoc]
    have l1 : (gvals f (n.gs.take j)).length = n.start + j := by rw [gvals_len, h1, List.length_take]; omega
    have l2 : (gvals f' (n.gs.take j)).length = n.start + j := by rw [gvals_len, h2, List.length_take]; omega
    rw [List.getD_eq_getElem?_getD, List.getD_eq_getElem?_getD]
    by_cases hlt : m < n.start + j
    · rw [List.getElem?_append_left (by omega), List.getElem?_append_left (by omega), ← List.getD_eq_getElem?_getD, ← List.getD_eq_getElem?_getD]
      exact inf_take h1 h2 hd hg j (by omega) m hlt hm hp
    · have em : m = n.start + j := by omega
      subst em
      rw [List.getElem?_append_right (by omega), List.getElem?_append_right (by omega), l1, l2, Nat.sub_self]
      obtain ⟨g1, g2⟩ := hg j _ e
      have key : ∀ q, q < n.start + j → Fd n q (n.start + j) → (gvals f (n.gs.take j)).getD q false = (gvals f' (n.gs.take j)).getD q false := fun q hq hf =>
        inf_take h1 h2 hd hg j (by omega) q hq (fun z => hp (by rw [← z]; exact .one hf)) (fun z => hp (z.snoc hf))
      have k1 := key (n.gs[j].1 / 2) (by omega) ⟨j, _, e, rfl, .inl rfl⟩
      have k2 := key (n.gs[j].2 / 2) (by omega) ⟨j, _, e, rfl, .inr rfl⟩
      show (lv (gvals f (n.gs.take j)) n.gs[j].1 && lv (gvals f (n.gs.take j)) n.gs[j].2) = (lv (gvals f' (n.gs.take j)) n.gs[j].1 && lv (gvals f' (n.gs.take j)) n.gs[j].2)
      unfold lv
      rw [k1, k2]
def flp (row : List Bool) (p : Nat) : List Bool := row.set p (!row.getD p false)
theorem flp_len (row : List Bool) (p : Nat) : (flp row p).length = row.length := List.length_set
theorem flp_get (row : List Bool) (p m : Nat) (h : m ≠ 1 + p) : (false :: row).getD m false = (false :: flp row p).getD m false := by
  cases m with
  | zero => rfl
  | succ m =>
    rw [List.getD_cons_succ, List.getD_cons_succ, List.getD_eq_getElem?_getD, List.getD_eq_getElem?_getD]
    unfold flp
    rw [List.getElem?_set_ne (by omega)]
theorem no_turn {n : Net} (hn : n.ok) {T : List Fact} (hc : Closed (netL n) T) {k place l : Nat} (hk : n.ns[k]? = some l) (ht : fct (tx "turns") (1 + place) (1 + n.ni + k) ∉ T) (hx : fct (tx "next") (1 + place) (1 + n.ni + k) ∉ T)
    {row : List Bool} (hr : row.length + 1 = n.start) : lv (n.vals row) l = lv (n.vals (flp row place)) l := by
  have hl := hn.n2 l (List.mem_of_getElem? hk)
  have hnx := c_next hc hk
  have h1 : l / 2 ≠ 1 + place := fun e => hx (by rw [← e]; exact hnx)
  have h2 : ¬ Pth n (1 + place) (l / 2) := fun z => ht (c_late hc (pth_leads hc z) hnx)
  have := inf_take (n := n) (f := false :: row) (f' := false :: flp row place) (v := 1 + place) (by rw [List.length_cons]; exact hr) (by rw [List.length_cons, flp_len]; exact hr) (flp_get row place) hn.g2 n.gs.length (Nat.le_refl _) (l / 2) (by unfold Net.size at hl; omega) h1 h2
  rw [List.take_length] at this
  unfold lv Net.vals
  rw [this]
theorem lead_lt {n : Net} (hn : n.ok) {T : List Fact} (hs : Sound (netL n) T) {a b : Nat} (ha : a < 200) (hb : b < 200) (h : fct (tx "leads") a b ∈ T) : a < b := by
  obtain ⟨i, j, hi, hj, e, ho⟩ := good_f (x := tx "leads") (hs Good (keeps_good hn) _ h) rfl
  unfold fct at e
  injection e with _ e
  injection e with e1 e
  injection e with e2 _
  rw [numT_inj ha hi e1, numT_inj hb hj e2]
  exact ho (.inr rfl)
theorem num_facts {n : Net} (hn : n.ok) {T : List Fact} (hs : Sound (netL n) T) (word : Tx) : ∀ f ∈ T, f.w = word → ∃ i j, i < 200 ∧ j < 200 ∧ f.ts = [numT i, numT j] := fun f hf _ => by
  obtain ⟨i, j, hi, hj, e, _⟩ := (hs Good (keeps_good hn) f hf).t
  exact ⟨i, j, hi, hj, e⟩
theorem lit_leads {n : Net} {T : List Fact} (hc : Closed (netL n) T) {k : Nat} {p : Nat × Nat} (h : n.gs[k]? = some p) : fct (tx "leads") (p.1 / 2) (n.start + k) ∈ T ∧ fct (tx "leads") (p.2 / 2) (n.start + k) ∈ T := by
  obtain ⟨h1, h2⟩ := c_feeds hc h
  exact ⟨c_own hc h1, c_own hc h2⟩
end K07
namespace K07
open PySem PySem.Spec L2 DL
local macro_rules | `(tactic| walk_at "nd") => `(tactic| simp only [icO, isN0, gStr, tdiE, tdiZT, gSortND, gSortL, gSortDX, tdListVals, tdSortItems, tdiVals, gDictC, tdLck, tdSetd, tdExt, gIntT, tdTruT, tdRaise0, gTupP, tdPt, gDictT, tdLc2T, tdLcN, gLenN, tdValsI, tdSortSet, gCatB, gEq_bb, tdLcB, tdDNew, tdNNew, tdNGet, tdNPut, tdFGet, tdiF, tdDctF, tdDc, tdDcN, tdTru, tdDAugG, tdDictZ, tdCallV, tdLc2, ln_4, ln_5, ln_6, fmod_2, fdiv_2, gAddT, tdIdx, gdUnl, tdiD, gSortI, gMin2, gMax2, gTuple, gDictP, tdLcT, lcT, setD, unsetD, tdKGet, tdKGet2, tdGet2, tdPop, tdSeq, tdAsg, tdV, gdName, tdAnd, tdOr, tdNot, tdB, tdOp, tdCB, tdCons, tdNil, tdC, tdAug, tdSl, tdP, tdRet, tdTup, tdIf, tdIfS, gOrd, gI0, gI, gLen, gIx, gAdd, gInt, vw, ixP, gSl, tdDrop, tdRetN, tdNext, gIn_sc, gIn_ts, gIn_ls, gIn_t2, gIn_l2, gIn_l4, tdApp, sl_0, sl_1, sl_2, sl_3, sl_4, sl_5, ff, tt', true_and, id,
  eqS, tdFor, tdiT, tdiL, tdiR, tdXp, gList, gEq_ns, tdJoin, gJoin, vwS, gMul, gMod, gDiv, gPow, gI, tdAugS, gdSub, gSet, ixN_2, ixN_3, atI_3, atI_4, gEq_ss, gEq_ii, tdDict, tdPairs, tdNeg, Option.isNone_none, Option.isNone_some, gIsi, tdGet, tdDPut, tdDAug, tdIsN, tdNotN, DO.dic.injEq, Option.isNone_none, Option.isNone_some, gIn_l2, gIn_t2, Option.getD_some, tdLc, gMax, tdNoP, forR, tdRaise, tdCall, tdNotV, tdAndV, tdOrV, tdBox, tdZ, gdTup, gdCons, gdNil, tdBreak, tdCont, tdYes, icast, icast1, icast2, icast3, tdLst, gIn_l4, icastL, icastE, icastZ, ln_0, ln_1, ln_2, ln_3,
  List.getElem?_cons_zero, List.getElem?_cons_succ, List.set_cons_zero, List.set_cons_succ, Option.some.injEq, exists_eq_left', exists_eq_left, D.bl.injEq, decide_eq_true_eq,
  tdFldC, tdMeth, tdMake, tdPutF, tdAugF, D.ref.injEq, DO.ins.injEq, and_assoc, DL.gSub, D.int.injEq, D.str.injEq, sup_same, eq_self, not_true_eq_false, not_false_eq_true, Bool.false_eq_true, Bool.not_eq_true, decide_not, atIn, atI_0, atI_1, atI_2, List.getElem?_map, Option.map_some, Option.map_none, decide_true, decide_false, Bool.not_true, Bool.not_false, if_true, if_false, lm_0, lm_1, lm_2, List.length_map, exists_and_left, *])
variable {P : Program} {w : World} {K : PySem.W.Frag} {mg : Str → Option Value} {base : Heap}
theorem gInD_prL {f : Bool → Bool} {S : Store} {ps : List (Nat × Nat)} {p : Nat × Nat} {Q : D → Store → Prop} (q : Q (.bl (f (decide (p ∈ ps)))) S) : gInD f S (DL.prD p) (.lst (ps.map DL.prD)) Q := by
  refine ⟨rfl, pr_pures ps, pr_shaped1 p, pr_shaped ps, ?_⟩
  show Q (.bl (f ((D.datas (ps.map DL.prD)).any fun z => PyData.eqv z (DL.prD p).data))) S
  rw [pr_any]
  exact q
theorem gEq_nil {S : Store} {Q : D → Store → Prop} (q : Q (.bl false) S) : gEq not S (.lst []) (.lst []) Q := ⟨rfl, rfl, show SeqAt.shaped (D.lst []).data = true by decide, show SeqAt.shaped (D.lst []).data = true by decide, q⟩
theorem ins_len {n : Net} (hn : n.ok) : n.ins.length = n.ni := by unfold Net.ins; rw [List.length_take]; have := hn.i2; show min n.ni 9 = _; omega
theorem rgs_len {n : Net} (hn : n.ok) : n.rgD.length = n.fs.length := by unfold Net.rgD; rw [List.length_map, List.length_zip]; have := hn.f2; show min 4 _ = _; omega
theorem len_ins {n : Net} (hn : n.ok) {ρ : Rho} {S : Store} {Q : D → Store → Prop} (h : ρ[1]? = some (some n.d)) (q : Q (nat n.ni) S) : tdCB gLen (tdCons (tdOp gIx (tdV 1) (tdC (D.int 0))) tdNil) ρ S Q := by
  refine ⟨_, h, _, rfl, ?_⟩
  show Q (.int (((n.ins.map D.str).length : Nat) : Int)) S
  rw [List.length_map, ins_len hn]
  exact q
theorem len_fs {n : Net} (hn : n.ok) {ρ : Rho} {S : Store} {Q : D → Store → Prop} (h : ρ[1]? = some (some n.d)) (q : Q (nat n.fs.length) S) : tdCB gLen (tdCons (tdOp gIx (tdV 1) (tdC (D.int 1))) tdNil) ρ S Q := by
  rw [Net.d_eq] at h
  refine ⟨_, h, _, rfl, ?_⟩
  show Q (.int ((n.rgD.length : Nat) : Int)) S
  rw [rgs_len hn]
  exact q
theorem sl_to {r : List Bool} {p : Nat} {S : Store} {Q : D → Store → Prop} (h : p < r.length) (q : Q (rowD (r.take p)) S) : DL.gSl S (rowD r) none (some ((p : Nat) : Int)) Q := by
  refine ⟨fun z => ?_, ?_⟩
  · have z2 := z.2
    rw [HT.sIx_nat, show (bD r).length = r.length from List.length_map _] at z2
    omega
  · rw [cutL_to, ← List.map_take]
    exact q
theorem sl_from {r : List Bool} {p : Nat} {S : Store} {Q : D → Store → Prop} (h : 1 ≤ p) (h0 : 1 ≤ r.length) (q : Q (rowD (r.drop p)) S) : DL.gSl S (rowD r) (some ((p : Nat) : Int)) none Q := by
  refine ⟨fun z => ?_, ?_⟩
  · have z1 := z.1
    rw [HT.sIx_nat, show (bD r).length = r.length from List.length_map _] at z1
    omega
  · rw [cutL_n, ← List.map_drop]
    exact q
theorem slf_go {ρ : Rho} {S : Store} {Q : D → Store → Prop} {i p : Nat} {t : TD} {r : List Bool} (h : ρ[i]? = some (some (rowD r))) (ht : ∀ Q' : D → Store → Prop, Q' (nat p) S → t ρ S Q') (h1 : 1 ≤ p) (h2 : 1 ≤ r.length) (q : Q (rowD (r.drop p)) S) : tdSl (tdV i) (tdP t) tdNoP ρ S Q := by
  refine ⟨_, h, ht _ ?_⟩
  dsimp only [tdNoP, nat]
  exact sl_from h1 h2 q
theorem slt_go {ρ : Rho} {S : Store} {Q : D → Store → Prop} {i p : Nat} {t : TD} {r : List Bool} (h : ρ[i]? = some (some (rowD r))) (ht : ∀ Q' : D → Store → Prop, Q' (nat p) S → t ρ S Q') (h1 : p < r.length) (q : Q (rowD (r.take p)) S) : tdSl (tdV i) tdNoP (tdP t) ρ S Q := by
  refine ⟨_, h, ht _ ?_⟩
  dsimp only [tdNoP, nat]
  exact sl_to h1 q
/-- the row with one place turned -/
theorem flp_eq {row : List Bool} {p : Nat} {b : Bool} (h : row[p]? = some b) : row.take p ++ [!b] ++ row.drop (p + 1) = flp row p := by
  have hl := (List.getElem?_eq_some_iff.mp h).1
  unfold flp
  rw [List.getD_eq_getElem?_getD, h, List.set_eq_take_append_cons_drop, if_pos hl, List.append_assoc]
  rfl
def m_law_holds (K : PySem.W.Frag) : M := fun ds S Q E => ∃ (a : Addr) (o : DO), ds = [.ref a] ∧ S a = some o ∧ DrO o ∧ (∀ S', E ⟨TwC K, []⟩ S') ∧ ∀ S', Q (.bl true) S'
theorem d__law_holds (Z : Zf P w K mg base) : Ca P w K mg base 17 "_law_holds" ["state"] (m_law_holds K) := by
  obtain ⟨fd, F, hb⟩ := Z.F__law_holds
  refine ⟨_, fd, df_of (k := 16) F sc__law_holds (fun cdv A outer s H E F0 E' B => (dss_cons (ds_set 1 nd__law_holds (de_ca (d__law_net Z) (B.mono (by omega)) rfl (da_cons (de_ca (d__law_design Z) (B.mono (by omega)) rfl (da_cons (dv 0) (da_cons (de_op od_addT de_int (de_ca (d__law_next Z) (B.mono (by omega)) rfl (da_cons (dv 0) (da_cons de_int da_nil)))) (da_cons (de_ca (d__law_next Z) (B.mono (by omega)) rfl (da_cons (dv 0) (da_cons de_int da_nil))) (da_cons de_int da_nil))))) (da_cons (de_cmp (od_eq B.units) (de_ca (d__law_next Z) (B.mono (by omega)) rfl (da_cons (dv 0) (da_cons de_int da_nil))) de_int rfl) da_nil))))
    (dss_cons (ds_set 2 nd__law_holds (de_ca (d_world Z) (B.mono (by omega)) rfl (da_cons (de_ca (d_net_rules Z) (B.mono (by omega)) rfl (da_cons (dv 1) da_nil)) da_nil)))
    (dss_cons (ds_set 3 nd__law_holds (de_ca (d__law_pairs Z) (B.mono (by omega)) rfl (da_cons (dv 2) (da_cons de_str da_nil))))
    (dss_cons (ds_set 4 nd__law_holds (de_op od_addT (de_ca (d__law_pairs Z) (B.mono (by omega)) rfl (da_cons (dv 2) (da_cons de_str da_nil))) (de_ca (d__law_pairs Z) (B.mono (by omega)) rfl (da_cons (dv 2) (da_cons de_str da_nil)))))
    (dss_cons (ds_if (dt_cmp (od_ne B.units) (de_lc rfl nd__law_holds (di_lst (dv 3)) (blkOk_by (own := [("pair", 5)]) (N := N__law_holds) (sc := defScope st__law_holds) (by decide +kernel)) (fun _ _ _ _ _ => pg_name (i := 5) nd__law_holds rfl (Or.inl rfl)) (fun _ _ _ _ _ => (dts_one (dt_cmp (od_eq B.blk.units) (de_ix (dv 5) de_int) (de_ix (dv 5) de_int) rfl))) (fun _ _ _ _ _ => (dv 5))) (de_lst da_nil) rfl) (dss_one (ds_ret de_bl)) dss_nil)
    (dss_cons (ds_set 6 nd__law_holds (de_op od_addT (de_op od_addT de_int (de_cB oc_len rfl Z.f_len bb_len (da_cons (de_ix (dv 1) de_int) da_nil))) (de_cB oc_len rfl Z.f_len bb_len (da_cons (de_ix (dv 1) de_int) da_nil))))
    (dss_cons (ds_for (passes_of rfl) rfl (di_rng rfl Z.f_range (da_cons (de_cB oc_len rfl Z.f_len bb_len (da_cons (de_ix (dv 1) de_int) da_nil)) da_nil)) (dg_name 7 nd__law_holds) (dss_one (ds_if (dt_cmp (od_ne B.units) (de_lc rfl nd__law_holds (di_tup (de_ix (de_ix (dv 1) de_int) (dv 7))) (blkOk_by (own := [("literal", 8)]) (N := N__law_holds) (sc := defScope st__law_holds) (by decide +kernel)) (fun _ _ _ _ _ => pg_name (i := 8) nd__law_holds rfl (Or.inl rfl)) (fun _ _ _ _ _ => (dts_one (dt_cmp (od_ninD (hu65 B.blk.room)) (de_tup (da_cons (de_op od_div (dv 8) de_int) (da_cons (de_op od_addT (dv 6) (dv 7)) da_nil))) (dv 3) rfl))) (fun _ _ _ _ _ => (dv 8))) (de_lst da_nil) rfl) (dss_one (ds_ret de_bl)) dss_nil)))
    (dss_cons (ds_set 9 nd__law_holds (de_op od_addT (de_cB oc_len rfl Z.f_len bb_len (da_cons (de_ix (dv 1) de_int) da_nil)) (de_cB oc_len rfl Z.f_len bb_len (da_cons (de_ix (dv 1) de_int) da_nil))))
    (dss_cons (ds_for (passes_of rfl) rfl (di_rng rfl Z.f_range (da_cons (de_cB oc_len rfl Z.f_len bb_len (da_cons (de_ix (dv 1) de_int) da_nil)) da_nil)) (dg_name 7 nd__law_holds) (dss_cons (ds_set 10 nd__law_holds (de_op od_addT (de_op od_addT de_int (de_cB oc_len rfl Z.f_len bb_len (da_cons (de_ix (dv 1) de_int) da_nil))) (dv 7)))
    (dss_one (ds_for (passes_of rfl) rfl (di_rng rfl Z.f_range (da_cons (dv 9) da_nil)) (dg_name 11 nd__law_holds) (dss_cons (ds_if (dt_cmp (od_inD (hu65 B.room)) (de_tup (da_cons (de_op od_addT de_int (dv 11)) (da_cons (dv 10) da_nil))) (dv 4) rfl) (dss_one ds_cont) dss_nil)
    (dss_one (ds_for (passes_of rfl) rfl (di_lst (de_ca (d__law_all_rows Z) (B.mono (by omega)) rfl (da_cons (dv 9) da_nil))) (dg_name 12 nd__law_holds) (dss_cons (ds_set 13 nd__law_holds (de_op od_addT (de_op od_addT (de_sl (dv 12) do_none (do_some (dv 11))) (de_tup (da_cons (de_not (de_ix (dv 12) (dv 11))) da_nil))) (de_sl (dv 12) (do_some (de_op od_addT (dv 11) de_int)) do_none)))
    (dss_cons (ds_setLc 14 rfl nd__law_holds rfl rfl (sw_true rfl rfl rfl (by decide +kernel)) (di_lst (de_lst (da_cons (dv 12) (da_cons (dv 13) da_nil)))) (blkOk_by (own := [("values", 15)]) (N := N__law_holds) (sc := defScope st__law_holds) (by decide +kernel)) (fun _ _ _ _ _ => pg_name (i := 15) nd__law_holds rfl (Or.inl rfl)) (fun _ _ _ _ _ => dts_nil) (fun _ _ _ _ _ => (de_ix (de_ix (de_ca (d__law_clock Z) (B.blk.mono (by omega)) rfl (da_cons (dv 1) (da_cons (de_sl (dv 15) (do_some (de_cB oc_len rfl Z.f_len bb_len (da_cons (de_ix (dv 1) de_int) da_nil))) do_none) (da_cons (de_sl (dv 15) do_none (do_some (de_cB oc_len rfl Z.f_len bb_len (da_cons (de_ix (dv 1) de_int) da_nil)))) (da_cons de_non da_nil))))) de_int) (dv 7))))
    (dss_one (ds_if (dt_cmp (od_ne B.units) (de_ix (dv 14) de_int) (de_ix (dv 14) de_int) rfl) (dss_one (ds_ret de_bl)) dss_nil)))))))))))
    (dss_one (ds_ret de_bl)))))))))))) ?_, Z.g__law_holds, F.kp, hb⟩
  rintro ds S Q E hl ⟨a, o, rfl, ho, hdr, hE, hq⟩
  rw [show startD N__law_holds [.ref a] = [some (.ref a), none, none, none, none, none, none, none, none, none, none, none, none, none, none, none] from rfl]
  clear hl
  refine seq_cut (fun ρ S1 => ∃ n : Net, n.ok ∧ n.ni + n.fs.length ≤ 6 ∧ ρ = [some (.ref a), some n.d, none, none, none, none, none, none, none, none, none, none, none, none, none, none]) (fun Rest hR => ?_) ?_
  · clear hq
    refine ⟨_, rfl, _, rfl, rfl, next_w (lim := 3) (Dw.init ho hdr) (by omega) (by omega) fun r1 S1 hr1 hd1 hk1 => ?_⟩
    clear ho hdr
    walk_at "nd"
    refine next_w (lim := 4) hd1 (by omega) (by omega) fun r2 S2 hr2 hd2 hk2 => ?_
    obtain ⟨o2, ho2, ha2⟩ := hd2.o
    refine ⟨a, o2, 1 + r1, r2, 6, rfl, ha2, ho2, by omega, by omega, by omega, by omega, by omega, by omega, fun o' fs sps es ho' hfs hsp hsl hel hel2 hes S3 hk3 ha3 => ?_⟩
    have hd3 : Dw a S S3 := ⟨⟨o', ho', ha3⟩, fun b u hb e => hk3 b u hb (hd2.k b u hb e)⟩
    refine next_w (lim := 2) hd3 (by omega) (by omega) fun r3 S4 hr3 hd4 hk4 => ?_
    rw [gEq_ii]
    refine ⟨1 + r1, fs, sps, es, decide ((r3 : Int) = 0), rfl, by omega, by omega, by omega, by omega, by rw [hfs]; exact hsp, by omega, by omega, by omega, by rw [hfs]; exact hes, fun n S5 hsub hok hni hfs2 => ?_⟩
    exact hR _ _ ⟨n, hok, by rw [hni, hfs2]; omega, rfl⟩
  rintro ρ S1 ⟨n, hn, h6, rfl⟩
  clear ho hdr
  refine seq_cut (fun ρ S2 => ∃ L : Told, Sound (netL n) (tfs L) ∧ Closed (netL n) (tfs L) ∧ L.length ≤ 2000 ∧ ρ = [some (.ref a), some n.d, some (toldD L), none, none, none, none, none, none, none, none, none, none, none, none, none]) (fun Rest hR => ?_) ?_
  · clear hq
    refine ⟨_, rfl, rfl, n, rfl, hn, fun S2 hs => ⟨rfl, netL n, rfl, netL_fits hn, hE, fun L S3 k1 k2 k3 k4 k5 => hR _ _ ⟨L, k1, k2, k4, rfl⟩⟩⟩
  rintro ρ S2 ⟨L, hs, hc, hl, rfl⟩
  refine seq_cut (fun ρ S3 => ∃ lp : List (Nat × Nat), (∀ i j, (i, j) ∈ lp ↔ i < 200 ∧ j < 200 ∧ fct (tx "leads") i j ∈ tfs L) ∧ lp.length ≤ 2000 ∧ ρ = [some (.ref a), some n.d, some (toldD L), some (.lst (lp.map DL.prD)), none, none, none, none, none, none, none, none, none, none, none, none]) (fun Rest hR => ?_) ?_
  · exact ⟨_, rfl, rfl, L, _, rfl, hl, num_facts hn hs _, fun lp S3 _ k1 k2 => hR _ _ ⟨lp, k1, k2, rfl⟩⟩
  rintro ρ S3 ⟨lp, hlp, hl2, rfl⟩
  refine seq_cut (fun ρ S3 => ∃ tp : List (Nat × Nat), (∀ i j, i < 200 → j < 200 → (i, j) ∉ tp → fct (tx "turns") i j ∉ tfs L ∧ fct (tx "next") i j ∉ tfs L) ∧ ρ = [some (.ref a), some n.d, some (toldD L), some (.lst (lp.map DL.prD)), some (.lst (tp.map DL.prD)), none, none, none, none, none, none, none, none, none, none, none]) (fun Rest hR => ?_) ?_
  · refine ⟨_, rfl, rfl, L, _, rfl, hl, num_facts hn hs _, fun t1 S4 _ k1 k2 => ⟨_, rfl, rfl, L, _, rfl, hl, num_facts hn hs _, fun t2 S5 _ k3 k4 => ⟨?_, ?_⟩⟩⟩
    · rw [List.length_map, List.length_map]
      exact Nat.le_trans (show _ ≤ 100000 by omega) (sz5 (by decide))
    · rw [← List.map_append]
      exact hR _ _ ⟨t1 ++ t2, fun i j hi hj hn => ⟨fun z => hn (List.mem_append.mpr (.inl ((k1 i j).mpr ⟨hi, hj, z⟩))), fun z => hn (List.mem_append.mpr (.inr ((k3 i j).mpr ⟨hi, hj, z⟩)))⟩, rfl⟩
  rintro ρ S4 ⟨tp, htp, rfl⟩
  refine seq_cut (fun ρ S5 => ρ = [some (.ref a), some n.d, some (toldD L), some (.lst (lp.map DL.prD)), some (.lst (tp.map DL.prD)), none, none, none, none, none, none, none, none, none, none, none]) (fun Rest hR => ?_) ?_
  · refine ifS_cut false (fun Q' q => ?_) (fun z => by cases z) (fun _ => hR _ _ rfl)
    refine ⟨_, rfl, ?_⟩
    refine lcR_fil DL.prD DL.prD (fun _ => false) lp [] S4 (fun p hp Q' q => ?_) (fun p hp Q' q => ⟨_, rfl, q⟩) (by rw [List.length_nil]; omega) ?_
    · show tdB _ [some (.ref a), some n.d, some (toldD L), some (.lst (lp.map DL.prD)), some (.lst (tp.map DL.prD)), some (DL.prD p), none, none, none, none, none, none, none, none, none, none] S4 Q'
      obtain ⟨i, j⟩ := p
      obtain ⟨hi, hj, hm⟩ := (hlp i j).mp hp
      have hlt := lead_lt hn hs hi hj hm
      unfold DL.prD
      walk_at "nd"
      rw [decide_eq_false (show ¬ i = j by omega)]
      exact q
    · rw [show lp.filter (fun _ => false) = [] by simp]
      refine ⟨Nat.zero_le _, gEq_nil ⟨_, rfl, q⟩⟩
  rintro ρ S5 rfl
  have hni := ins_len hn
  have hfs := rgs_len hn
  have i1 := hn.i1
  have hcl := hn.n1
  refine seq_cut (fun ρ S6 => ρ = [some (.ref a), some n.d, some (toldD L), some (.lst (lp.map DL.prD)), some (.lst (tp.map DL.prD)), none, some (nat n.start), none, none, none, none, none, none, none, none, none]) (fun Rest hR => ?_) ?_
  · have hR := fun S => hR _ S rfl
    clear hq hE htp hlp hl hl2
    rw [Net.d_eq] at hR ⊢
    walk_at "nd"
    exact hR _
  rintro ρ S6 rfl
  refine seq_cut (fun ρ S7 => ∃ x7 x8, ρ = [some (.ref a), some n.d, some (toldD L), some (.lst (lp.map DL.prD)), some (.lst (tp.map DL.prD)), none, some (nat n.start), x7, x8, none, none, none, none, none, none, none]) (fun Rest hR => ?_) ?_
  · clear hq hE htp hl
    rw [Net.d_eq] at hR ⊢
    generalize D.tup (n.ins.map D.str) = c0 at hR ⊢
    generalize D.tup n.rgD = c1 at hR ⊢
    generalize D.tup n.ouD = c3 at hR ⊢
    walk_at "nd"
    have hg1 := hn.g1
    refine ⟨by omega, by omega, ?_⟩
    rw [rng_nat]
    refine for_ind (fun ds ρ S' => ∃ (j m : Nat) (x7 x8 : Option D), ds = (List.range' j m).map nat ∧ j + m = n.gs.length ∧ ρ = [some (.ref a), some (.tup [c0, c1, .tup (n.gs.map DL.prD), c3, .tup (n.ns.map nat)]), some (toldD L), some (.lst (lp.map DL.prD)), some (.lst (tp.map DL.prD)), none, some (nat n.start), x7, x8, none, none, none, none, none, none, none]) ?_ ?_ _ _ _ ⟨0, n.gs.length, none, none, rfl, by omega, rfl⟩
    · rintro ρ S' ⟨j, m, x7, x8, e1, e2, rfl⟩
      exact hR _ _ ⟨x7, x8, rfl⟩
    · rintro d ds ρ S' W hW ⟨j, m, x7, x8, e1, e2, rfl⟩
      cases m with
      | zero => cases e1
      | succ m =>
        rw [List.range'_succ, List.map_cons] at e1
        injection e1 with e1 e5
        subst e1 e5
        have hW := fun x8 S => hW _ S ⟨j + 1, m, some (nat j), x8, rfl, by omega, rfl⟩
        have hjl : j < n.gs.length := by omega
        have hp : n.gs[j]? = some n.gs[j] := List.getElem?_eq_getElem hjl
        obtain ⟨k1, k2⟩ := lit_leads hc hp
        generalize n.gs[j] = p at hp k1 k2
        obtain ⟨g1, g2⟩ := hn.g2 j p hp
        have hsz : n.start ≤ 9 := by unfold Net.start; omega
        have l1 : (p.1 / 2, n.start + j) ∈ lp := (hlp _ _).mpr ⟨by omega, by omega, k1⟩
        have l2 : (p.2 / 2, n.start + j) ∈ lp := (hlp _ _).mpr ⟨by omega, by omega, k2⟩
        clear hR hlp
        refine ifS_cut false (fun Q' q => ?_) (fun z => by cases z) (fun _ => hW _ _)
        have hix : atI (n.gs.map DL.prD) ((j : Nat) : Int) = some (DL.prD p) := by rw [atIn, List.getElem?_map, hp]; rfl
        refine ⟨_, rfl, _, rfl, _, rfl, _, hix, ?_⟩
        have tst : ∀ l, (l / 2, n.start + j) ∈ lp → ∀ (Q' : Bool → Store → Prop), Q' false S' → tdB (tdOp (gInD not) (tdTup (tdCons (tdOp (gI CDivN fun i j => D.int (i.fdiv j)) (tdV 8) (tdC (D.int 2))) (tdCons (tdOp gAddT (tdV 6) (tdV 7)) tdNil))) (tdV 3))
            [some (.ref a), some (.tup [c0, c1, .tup (n.gs.map DL.prD), c3, .tup (n.ns.map nat)]), some (toldD L), some (.lst (lp.map DL.prD)), some (.lst (tp.map DL.prD)), none, some (nat n.start), some (nat j), some (nat l), none, none, none, none, none, none, none] S' Q' := fun l hm Q' q => by
          have hgi : ∀ Q2 : D → Store → Prop, Q2 (.bl false) S' → gInD not S' (.tup [.int ((l / 2 : Nat) : Int), .int ((n.start + j : Nat) : Int)]) (.lst (lp.map DL.prD)) Q2 := fun Q2 q2 => gInD_prL (p := (l / 2, n.start + j)) (by rw [decide_eq_true hm]; exact q2)
          clear hW
          walk_at "nd"
          exact ⟨⟨by decide, by decide⟩, True.intro⟩
        show lcR 8 _ _ [some (.ref a), some (.tup [c0, c1, .tup (n.gs.map DL.prD), c3, .tup (n.ns.map nat)]), some (toldD L), some (.lst (lp.map DL.prD)), some (.lst (tp.map DL.prD)), none, some (nat n.start), some (nat j), x8, none, none, none, none, none, none, none] ([p.1, p.2].map nat) [] S' _
        refine lcR_fil nat nat (fun _ => false) [p.1, p.2] [] S' (fun l hl3 Q' q => tst l ?_ Q' q) (fun l hl3 Q' q => ⟨_, rfl, q⟩) (show 0 + 2 ≤ 100000 by decide) ⟨Nat.zero_le _, gEq_nil ⟨_, rfl, q⟩⟩
        rcases List.mem_cons.mp hl3 with rfl | hl3
        · exact l1
        · rw [List.mem_singleton.mp hl3]
          exact l2
  rintro ρ S7 ⟨x7, x8, rfl⟩
  refine seq_cut (fun ρ S8 => ρ = [some (.ref a), some n.d, some (toldD L), some (.lst (lp.map DL.prD)), some (.lst (tp.map DL.prD)), none, some (nat n.start), x7, x8, some (nat (n.ni + n.fs.length)), none, none, none, none, none, none]) (fun Rest hR => ?_) ?_
  · have hR := fun S => hR _ S rfl
    clear hq hE htp hlp hl hl2
    rw [Net.d_eq] at hR ⊢
    walk_at "nd"
  rintro ρ S8 rfl
  refine seq_cut (fun ρ S9 => ∃ y7 y10 y11 y12 y13 y14, ρ = [some (.ref a), some n.d, some (toldD L), some (.lst (lp.map DL.prD)), some (.lst (tp.map DL.prD)), none, some (nat n.start), y7, x8, some (nat (n.ni + n.fs.length)), y10, y11, y12, y13, y14, none]) (fun Rest hR => ?_) ?_
  · clear hq hE hl hlp hl2
    refine len_fs hn rfl ⟨show -2 ^ 62 ≤ ((n.fs.length : Nat) : Int) by omega, show ((n.fs.length : Nat) : Int) < 2 ^ 62 by omega, ?_⟩
    rw [rng_nat]
    refine for_ind (fun ds ρ S' => ∃ (j m : Nat) (y7 y10 y11 y12 y13 y14 : Option D), ds = (List.range' j m).map nat ∧ j + m = n.fs.length ∧ ρ = [some (.ref a), some n.d, some (toldD L), some (.lst (lp.map DL.prD)), some (.lst (tp.map DL.prD)), none, some (nat n.start), y7, x8, some (nat (n.ni + n.fs.length)), y10, y11, y12, y13, y14, none]) ?_ ?_ _ _ _ ⟨0, n.fs.length, _, _, _, _, _, _, rfl, by omega, rfl⟩
    · rintro ρ S' ⟨j, m, y7, y10, y11, y12, y13, y14, _, _, rfl⟩
      exact hR _ _ ⟨_, _, _, _, _, _, rfl⟩
    · rintro d ds ρ S' W hW ⟨j, m, y7, y10, y11, y12, y13, y14, e1, e2, rfl⟩
      cases m with
      | zero => cases e1
      | succ m =>
        rw [List.range'_succ, List.map_cons] at e1
        injection e1 with e1 e5
        subst e1 e5
        replace hW := fun y7 y10 y11 y12 y13 y14 S => hW _ S ⟨j + 1, m, y7, y10, y11, y12, y13, y14, rfl, by omega, rfl⟩
        clear hR
        have hjl : j < n.ns.length := by omega
        have hp : n.ns[j]? = some n.ns[j] := List.getElem?_eq_getElem hjl
        generalize n.ns[j] = l at hp
        show tdSeq _ _ _ [some (.ref a), some n.d, some (toldD L), some (.lst (lp.map DL.prD)), some (.lst (tp.map DL.prD)), none, some (nat n.start), some (nat j), x8, some (nat (n.ni + n.fs.length)), y10, y11, y12, y13, y14, none] S'
        refine seq_cut (fun ρ S9 => ρ = [some (.ref a), some n.d, some (toldD L), some (.lst (lp.map DL.prD)), some (.lst (tp.map DL.prD)), none, some (nat n.start), some (nat j), x8, some (nat (n.ni + n.fs.length)), some (nat (1 + n.ni + j)), y11, y12, y13, y14, none]) (fun Rest hR => ?_) ?_
        · refine len_ins hn rfl ⟨_, rfl, ?_⟩
          exact hR _ _ rfl
        rintro ρ S9 rfl
        refine ⟨_, rfl, show -2 ^ 62 ≤ ((n.ni + n.fs.length : Nat) : Int) by omega, show ((n.ni + n.fs.length : Nat) : Int) < 2 ^ 62 by omega, ?_⟩
        rw [rng_nat]
        refine for_ind (fun ds ρ S' => ∃ (i m : Nat) (y11 y12 y13 y14 : Option D), ds = (List.range' i m).map nat ∧ i + m = n.ni + n.fs.length ∧ ρ = [some (.ref a), some n.d, some (toldD L), some (.lst (lp.map DL.prD)), some (.lst (tp.map DL.prD)), none, some (nat n.start), some (nat j), x8, some (nat (n.ni + n.fs.length)), some (nat (1 + n.ni + j)), y11, y12, y13, y14, none]) ?_ ?_ _ _ _ ⟨0, n.ni + n.fs.length, _, _, _, _, rfl, by omega, rfl⟩
        · rintro ρ S' ⟨i, m, y11, y12, y13, y14, _, _, rfl⟩
          exact hW _ _ _ _ _ _ _
        · clear hW
          rintro d ds ρ S' W hW ⟨i, m, y11, y12, y13, y14, e1, e3, rfl⟩
          cases m with
          | zero => cases e1
          | succ m =>
            rw [List.range'_succ, List.map_cons] at e1
            injection e1 with e1 e5
            subst e1 e5
            replace hW := fun y11 y12 y13 y14 S => hW _ S ⟨i + 1, m, y11, y12, y13, y14, rfl, by omega, rfl⟩
            show tdSeq _ _ _ [some (.ref a), some n.d, some (toldD L), some (.lst (lp.map DL.prD)), some (.lst (tp.map DL.prD)), none, some (nat n.start), some (nat j), x8, some (nat (n.ni + n.fs.length)), some (nat (1 + n.ni + j)), some (nat i), y12, y13, y14, none] S'
            have hgi : ∀ Q2 : D → Store → Prop, Q2 (.bl (decide ((1 + i, 1 + n.ni + j) ∈ tp))) S' → gInD id S' (.tup [.int ((1 + i : Nat) : Int), .int ((1 + n.ni + j : Nat) : Int)]) (.lst (tp.map DL.prD)) Q2 := fun Q2 q2 => gInD_prL (p := (1 + i, 1 + n.ni + j)) q2
            refine ifS_cut (decide ((1 + i, 1 + n.ni + j) ∈ tp)) (fun Q' q => ?_) (fun _ => hW _ _ _ _ _) (fun hnt => ?_)
            · refine ⟨_, rfl, _, rfl, Nat.le_trans (show 2 ≤ 1000000 by decide) (sz5 (by decide)), _, rfl, ?_⟩
              exact hgi _ ⟨_, rfl, q⟩
            obtain ⟨t1, t2⟩ := htp (1 + i) (1 + n.ni + j) (by omega) (by omega) (of_decide_eq_false hnt)
            have same := fun row hr => no_turn hn hc hp t1 t2 (row := row) hr
            clear t1 t2 hgi hnt
            refine ⟨_, rfl, rfl, n.ni + n.fs.length, rfl, by omega, ?_⟩
            refine for_ind (fun ds ρ S' => ∃ (rs : List (List Bool)) (y12 y13 y14 : Option D), ds = rs.map rowD ∧ (∀ r ∈ rs, r.length = n.ni + n.fs.length) ∧ ρ = [some (.ref a), some n.d, some (toldD L), some (.lst (lp.map DL.prD)), some (.lst (tp.map DL.prD)), none, some (nat n.start), some (nat j), x8, some (nat (n.ni + n.fs.length)), some (nat (1 + n.ni + j)), some (nat i), y12, y13, y14, none]) ?_ ?_ _ _ _ ⟨rowsB (n.ni + n.fs.length), _, _, _, rfl, fun r h => (mem_rowsB _ r).mp h, rfl⟩
            · rintro ρ S' ⟨rs, y12, y13, y14, _, _, rfl⟩
              exact hW _ _ _ _ _
            · clear hW
              rintro d ds ρ S' W hW ⟨rs, y12, y13, y14, e1, e4, rfl⟩
              cases rs with
              | nil => cases e1
              | cons r rs =>
                injection e1 with e1 e5
                subst e1 e5
                replace hW := fun y12 y13 y14 S => hW _ S ⟨rs, y12, y13, y14, rfl, fun r h => e4 r (List.mem_cons_of_mem _ h), rfl⟩
                have hr := e4 r List.mem_cons_self
                have hir : r[i]? = some r[i] := List.getElem?_eq_getElem (by omega)
                have hfl := flp_eq hir
                show tdSeq _ _ _ [some (.ref a), some n.d, some (toldD L), some (.lst (lp.map DL.prD)), some (.lst (tp.map DL.prD)), none, some (nat n.start), some (nat j), x8, some (nat (n.ni + n.fs.length)), some (nat (1 + n.ni + j)), some (nat i), some (rowD r), y13, y14, none] S'
                refine seq_cut (fun ρ S9 => ρ = [some (.ref a), some n.d, some (toldD L), some (.lst (lp.map DL.prD)), some (.lst (tp.map DL.prD)), none, some (nat n.start), some (nat j), x8, some (nat (n.ni + n.fs.length)), some (nat (1 + n.ni + j)), some (nat i), some (rowD r), some (rowD (flp r i)), y14, none]) (fun Rest hR => ?_) ?_
                · refine ⟨_, rfl, _, rfl, sl_to (by omega) ⟨_, rfl, _, rfl, .bl r[i], ?_, _, rfl, sz5 (show 1 ≤ 1000000 by decide), ?_⟩⟩
                  · show atI (bD r) ((i : Nat) : Int) = _
                    rw [atIn, List.getElem?_map, hir]
                    rfl
                  · have hb1 : ∀ l : List Bool, (bD l).length = l.length := fun l => List.length_map _
                    refine ⟨?_, slf_go (p := i + 1) (r := r) rfl (fun Q' q' => ⟨_, rfl, q'⟩) (by omega) (by omega) ?_⟩
                    · rw [hb1, List.length_take]
                      exact Nat.le_trans (show min i r.length + 1 ≤ 1000000 by omega) (sz5 (by decide))
                    · refine ⟨?_, ?_⟩
                      · rw [List.length_append, hb1, hb1, List.length_take, List.length_drop]
                        exact Nat.le_trans (show min i r.length + 1 + (r.length - (i + 1)) ≤ 1000000 by omega) (sz5 (by decide))
                      · refine hR _ _ ?_
                        have e9 : D.tup (bD (r.take i) ++ [D.bl (!r[i])] ++ bD (r.drop (i + 1))) = rowD (flp r i) := by
                          rw [← hfl]
                          unfold rowD bD
                          rw [List.map_append, List.map_append]
                          rfl
                        rw [← e9]
                        rfl
                rintro ρ S9 rfl
                clear hfl hir
                have hfr : (flp r i).length = r.length := flp_len r i
                refine seq_cut (fun ρ S9 => ρ = [some (.ref a), some n.d, some (toldD L), some (.lst (lp.map DL.prD)), some (.lst (tp.map DL.prD)), none, some (nat n.start), some (nat j), x8, some (nat (n.ni + n.fs.length)), some (nat (1 + n.ni + j)), some (nat i), some (rowD r), some (rowD (flp r i)), some (.lst [.bl (lv (n.vals r) l), .bl (lv (n.vals (flp r i)) l)]), none]) (fun Rest hR => ?_) ?_
                · refine ⟨_, rfl, _, rfl, sz5 (show 2 ≤ 1000000 by decide), ?_⟩
                  show lcR 15 _ _ _ ([r, flp r i].map rowD) [] _ _
                  refine lcR_map rowD (fun v => .bl (lv (n.vals v) l)) [r, flp r i] [] S9 (fun v hv Q' q => ?_) (show 0 + 2 ≤ 100000 by decide) (hR _ _ rfl)
                  have hvl : v.length = n.ni + n.fs.length := by
                    rcases List.mem_cons.mp hv with rfl | hv
                    · exact hr
                    · rw [List.mem_singleton.mp hv, hfr]
                      exact hr
                  refine ⟨_, rfl, slf_go (p := n.ni) (r := v) rfl (fun Q' q' => len_ins hn rfl q') (by omega) (by omega) ?_⟩
                  refine slt_go (p := n.ni) (r := v) rfl (fun Q' q' => len_ins hn rfl q') (by omega) ?_
                  refine ⟨rfl, n, v.drop n.ni, v.take n.ni, rfl, hn, by rw [List.length_drop]; omega, by rw [List.length_take]; omega, _, rfl, _, rfl, .bl (lv (n.vals v) l), ?_, q⟩
                  show atI (bD (n.nxt (v.drop n.ni) (v.take n.ni))) ((j : Nat) : Int) = _
                  rw [atIn]
                  unfold bD Net.nxt
                  rw [List.take_append_drop, List.getElem?_map, List.getElem?_map, hp]
                  rfl
                rintro ρ S10 rfl
                have hsame := same r (by rw [hr]; unfold Net.start; omega)
                refine ifS_cut false (fun Q' q => ?_) (fun z => by cases z) (fun _ => hW _ _ _ _)
                refine ⟨_, rfl, _, rfl, _, rfl, _, rfl, ?_⟩
                show gEq not S10 (.bl (lv (n.vals r) l)) (.bl (lv (n.vals (flp r i)) l)) _
                rw [gEq_bb]
                refine ⟨_, rfl, ?_⟩
                rw [decide_eq_true hsame]
                exact q
  rintro ρ S9 ⟨y7, y10, y11, y12, y13, y14, rfl⟩
  walk_at "nd"
  exact fini (hq _)
end K07
namespace K07
open PySem PySem.Spec L2 DL
local macro_rules | `(tactic| walk_at "nd") => `(tactic| simp only [icO, isN0, gStr, tdiE, tdiZT, gSortND, gSortL, gSortDX, tdListVals, tdSortItems, tdiVals, gDictC, tdLck, tdSetd, tdExt, gIntT, tdTruT, tdRaise0, gTupP, tdPt, gDictT, tdLc2T, tdLcN, gLenN, tdValsI, tdSortSet, gCatB, gEq_bb, tdLcB, tdDNew, tdNNew, tdNGet, tdNPut, tdFGet, tdiF, tdDctF, tdDc, tdDcN, tdTru, tdDAugG, tdDictZ, tdCallV, tdLc2, ln_4, ln_5, ln_6, fmod_2, fdiv_2, gAddT, tdIdx, gdUnl, tdiD, gSortI, gMin2, gMax2, gTuple, gDictP, tdLcT, lcT, setD, unsetD, tdKGet, tdKGet2, tdGet2, tdPop, tdSeq, tdAsg, tdV, gdName, tdAnd, tdOr, tdNot, tdB, tdOp, tdCB, tdCons, tdNil, tdC, tdAug, tdSl, tdP, tdRet, tdTup, tdIf, tdIfS, gOrd, gI0, gI, gLen, gIx, gAdd, gInt, vw, ixP, gSl, tdDrop, tdRetN, tdNext, gIn_sc, gIn_ts, gIn_ls, gIn_t2, gIn_l2, gIn_l4, tdApp, sl_0, sl_1, sl_2, sl_3, sl_4, sl_5, ff, tt', true_and, id,
  eqS, tdFor, tdiT, tdiL, tdiR, tdXp, gList, gEq_ns, tdJoin, gJoin, vwS, gMul, gMod, gDiv, gPow, gI, tdAugS, gdSub, gSet, ixN_2, ixN_3, atI_3, atI_4, gEq_ss, gEq_ii, tdDict, tdPairs, tdNeg, Option.isNone_none, Option.isNone_some, gIsi, tdGet, tdDPut, tdDAug, tdIsN, tdNotN, DO.dic.injEq, Option.isNone_none, Option.isNone_some, gIn_l2, gIn_t2, Option.getD_some, tdLc, gMax, tdNoP, forR, tdRaise, tdCall, tdNotV, tdAndV, tdOrV, tdBox, tdZ, gdTup, gdCons, gdNil, tdBreak, tdCont, tdYes, icast, icast1, icast2, icast3, tdLst, gIn_l4, icastL, icastE, icastZ, ln_0, ln_1, ln_2, ln_3,
  List.getElem?_cons_zero, List.getElem?_cons_succ, List.set_cons_zero, List.set_cons_succ, Option.some.injEq, exists_eq_left', exists_eq_left, D.bl.injEq, decide_eq_true_eq,
  tdFldC, tdMeth, tdMake, tdPutF, tdAugF, D.ref.injEq, DO.ins.injEq, and_assoc, DL.gSub, D.int.injEq, D.str.injEq, sup_same, eq_self, not_true_eq_false, not_false_eq_true, Bool.false_eq_true, Bool.not_eq_true, decide_not, atIn, atI_0, atI_1, atI_2, List.getElem?_map, Option.map_some, Option.map_none, decide_true, decide_false, Bool.not_true, Bool.not_false, if_true, if_false, lm_0, lm_1, lm_2, List.length_map, exists_and_left, *])
variable {P : Program} {w : World} {K : PySem.W.Frag} {mg : Str → Option Value} {base : Heap}
def m_law : M := fun ds S Q E => ∃ ns, ds = [.scr ns] ∧ ∀ S', Q (.bl true) S'
theorem d_law (Z : Zf P w K mg base) {fd : FuncData} (F : Fun K "law" "law" st_law (He.ga K "law") fd) : DF P w K mg base 18 (He.ga K "law") fd ["script"] m_law := by
  refine df_of (k := 17) F sc_law (fun cdv A outer s H E F0 E' B => (dss_one (ds_tryO (k := 17) 1 rfl rfl rfl B.room rfl ⟨rfl, by decide, .inl Z.g_TooWide⟩ Z.e_TooWide (fun F1 pn xe E2 po B2 => (dss_one (ds_ret (de_ca (d__law_holds Z) (B2.mono (by omega)) rfl (da_cons (de_box (da_cons (de_cT oc_list rfl Z.f_list bb_list (da_cons (dv 0) da_nil)) (da_cons de_int (da_cons de_int (da_cons de_int da_nil))))) da_nil))))) (fun F1 a oe pn => (dss_one (ds_ret de_bl)))))) ?_
  rintro ds S Q E hl ⟨ns, rfl, hq⟩
  rw [show startD N_law [.scr ns] = [some (.scr ns)] from rfl]
  refine ⟨_, rfl, sz5 (show 4 ≤ 1000000 by decide), fun p hp => ⟨rfl, ?_⟩⟩
  exact ⟨p, stO ns 0 0 1, rfl, sup_same, ⟨ns, 0, 0, 1, rfl, ⟨by omega, by omega, by omega⟩⟩, fun S' => ⟨rfl, fini (hq S')⟩, fun S' => fini (hq S')⟩
end K07
namespace K07
open PySem PySem.Spec L2 DL
theorem fF {K : PySem.W.Frag} {x qual : Str} {st : Stmt} {f : Addr} {ps : List Str} (F : ∃ fd, FunD K x qual (defArgs st) (defBody st) (defScope st) [] [] f fd)
    (h : ∀ (kV doc pm : Value) (an : Option Addr) (cdv ct : Value) (us : List Value), us.length = ps.length → bindArgs (PySem.W.fnOf x qual (defArgs st) (defBody st) (defScope st) .none kV doc pm an cdv ct) ⟨us, []⟩ = pure (ps.zip us)) :
    ∃ fd, Fun K x qual st f fd ∧ Binds K fd ps [] := by
  obtain ⟨fd, F⟩ := F
  exact ⟨fd, He5.fun_of F, F.bindsN h⟩
theorem fV {K : PySem.W.Frag} {x qual : Str} {st : Stmt} {f : Addr} {ps : List Str} {dvs : List V} (F : ∃ fd, FunD K x qual (defArgs st) (defBody st) (defScope st) dvs [] f fd) (n : Nat) (hd : dvs ≠ []) (hn : n + (dvs.length - 0) = ps.length)
    (h : ∀ (T : Addr) (kV doc pm : Value) (an : Option Addr) (cdv ct : Value) (us its : List Value), us.length = n → its.length = dvs.length →
      ∃ k, bindArgs (PySem.W.fnOf x qual (defArgs st) (defBody st) (defScope st) (.ref T) kV doc pm an cdv ct) ⟨us, []⟩ = seqItems? (.ref T) >>= k ∧ k (some its.toArray) = pure (ps.zip (us ++ its.drop 0))) :
    ∃ fd, FunD K x qual (defArgs st) (defBody st) (defScope st) dvs [] f fd ∧ ∃ ds, Vals dvs ds ∧ Binds K fd ps ds := by
  obtain ⟨fd, F⟩ := F
  exact ⟨fd, F, F.binds1 n 0 hd hn h⟩
def fa : List He.Fa := [.free "bool",
  .free "dict",
  .free "int",
  .free "isinstance",
  .free "len",
  .free "list",
  .free "max",
  .free "min",
  .free "range",
  .free "sorted",
  .free "str",
  .free "tuple",
  .free "zip",
  .free "set",
  .free "enumerate",
  .glo "net_rules",
  .glo "is_name",
  .glo "names_in",
  .glo "filled",
  .glo "matched",
  .glo "layers",
  .glo "check_rules",
  .glo "world",
  .glo "fillings",
  .glo "_law_next",
  .glo "_law_same",
  .glo "_law_turned",
  .glo "_law_conj",
  .glo "_law_step",
  .glo "_law_trimmed",
  .glo "_law_design",
  .glo "_law_net",
  .glo "_law_values",
  .glo "_law_clock",
  .glo "_law_all_rows",
  .glo "_law_pairs",
  .glo "_law_holds",
  .glo "law",
  .glo "ChiploreError",
  .glo "TooWide",
  .glo "UnfitRules",
  .glo "Closing",
  .cls "Closing",
  .noat "Closing" "rules",
  .noat "Closing" "found",
  .noat "Closing" "tries",
  .noat "Closing" "layers",
  .meth "Closing" "ways",
  .meth "Closing" "close",
  .mkr "Closing",
  .int "MOST_FACTS" 2000,
  .int "MOST_TRIES" 100000,
  .free "super"]
def fn : List He.DefD := [⟨("net_rules", none), "net_rules", "net_rules", defArgs st_net_rules, defBody st_net_rules, defScope st_net_rules, [], []⟩,
  ⟨("is_name", none), "is_name", "is_name", defArgs st_is_name, defBody st_is_name, defScope st_is_name, [], []⟩,
  ⟨("names_in", none), "names_in", "names_in", defArgs st_names_in, defBody st_names_in, defScope st_names_in, [], []⟩,
  ⟨("filled", none), "filled", "filled", defArgs st_filled, defBody st_filled, defScope st_filled, [], []⟩,
  ⟨("matched", none), "matched", "matched", defArgs st_matched, defBody st_matched, defScope st_matched, [], []⟩,
  ⟨("layers", none), "layers", "layers", defArgs st_layers, defBody st_layers, defScope st_layers, [], []⟩,
  ⟨("check_rules", none), "check_rules", "check_rules", defArgs st_check_rules, defBody st_check_rules, defScope st_check_rules, [], []⟩,
  ⟨("Closing", some "__init__"), "__init__", "Closing.__init__", defArgs st_Closing___init__, defBody st_Closing___init__, defScope st_Closing___init__, [], []⟩,
  ⟨("Closing", some "ways"), "ways", "Closing.ways", defArgs st_Closing_ways, defBody st_Closing_ways, defScope st_Closing_ways, [], []⟩,
  ⟨("Closing", some "close"), "close", "Closing.close", defArgs st_Closing_close, defBody st_Closing_close, defScope st_Closing_close, [], []⟩,
  ⟨("world", none), "world", "world", defArgs st_world, defBody st_world, defScope st_world, [], []⟩,
  ⟨("fillings", none), "fillings", "fillings", defArgs st_fillings, defBody st_fillings, defScope st_fillings, [], []⟩,
  ⟨("_law_next", none), "_law_next", "_law_next", defArgs st__law_next, defBody st__law_next, defScope st__law_next, [], []⟩,
  ⟨("_law_same", none), "_law_same", "_law_same", defArgs st__law_same, defBody st__law_same, defScope st__law_same, [], []⟩,
  ⟨("_law_turned", none), "_law_turned", "_law_turned", defArgs st__law_turned, defBody st__law_turned, defScope st__law_turned, [], []⟩,
  ⟨("_law_conj", none), "_law_conj", "_law_conj", defArgs st__law_conj, defBody st__law_conj, defScope st__law_conj, [], []⟩,
  ⟨("_law_step", none), "_law_step", "_law_step", defArgs st__law_step, defBody st__law_step, defScope st__law_step, [], []⟩,
  ⟨("_law_trimmed", none), "_law_trimmed", "_law_trimmed", defArgs st__law_trimmed, defBody st__law_trimmed, defScope st__law_trimmed, [], []⟩,
  ⟨("_law_design", none), "_law_design", "_law_design", defArgs st__law_design, defBody st__law_design, defScope st__law_design, [], []⟩,
  ⟨("_law_net", none), "_law_net", "_law_net", defArgs st__law_net, defBody st__law_net, defScope st__law_net, [], []⟩,
  ⟨("_law_values", none), "_law_values", "_law_values", defArgs st__law_values, defBody st__law_values, defScope st__law_values, [], []⟩,
  ⟨("_law_clock", none), "_law_clock", "_law_clock", defArgs st__law_clock, defBody st__law_clock, defScope st__law_clock, [], []⟩,
  ⟨("_law_all_rows", none), "_law_all_rows", "_law_all_rows", defArgs st__law_all_rows, defBody st__law_all_rows, defScope st__law_all_rows, [], []⟩,
  ⟨("_law_pairs", none), "_law_pairs", "_law_pairs", defArgs st__law_pairs, defBody st__law_pairs, defScope st__law_pairs, [], []⟩,
  ⟨("_law_holds", none), "_law_holds", "_law_holds", defArgs st__law_holds, defBody st__law_holds, defScope st__law_holds, [], []⟩,
  ⟨("law", none), "law", "law", defArgs st_law, defBody st_law, defScope st_law, [], []⟩]
def exT (K : PySem.W.Frag) : Bool := true
structure Xf (P : Program) (w : World) (K : PySem.W.Frag) (mg : Str → Option Value) (base : Heap) : Prop where
  x_TooWide : RX0 K (He.ga K "TooWide")
  e_TooWide : PySem.W.exmOne K (.ref (He.ga K "TooWide")) (.ref (He.ga K "TooWide")) = some true
theorem zf {P : Program} {w : World} {K : PySem.W.Frag} {h : Heap} {mg : Str → Option Value} {base : Heap} (X : K.In h) (G : h.Ns mainGlobals mg) (c : He.SaysD fa fn K) (e : exT K = true) (x : Xf P w K mg base) : Zf P w K mg base where
  f_bool := He.free_ok X G (c.fact 0 (f := .free "bool") rfl)
  f_dict := He.free_ok X G (c.fact 1 (f := .free "dict") rfl)
  f_int := He.free_ok X G (c.fact 2 (f := .free "int") rfl)
  f_isinstance := He.free_ok X G (c.fact 3 (f := .free "isinstance") rfl)
  f_len := He.free_ok X G (c.fact 4 (f := .free "len") rfl)
  f_list := He.free_ok X G (c.fact 5 (f := .free "list") rfl)
  f_max := He.free_ok X G (c.fact 6 (f := .free "max") rfl)
  f_min := He.free_ok X G (c.fact 7 (f := .free "min") rfl)
  f_range := He.free_ok X G (c.fact 8 (f := .free "range") rfl)
  f_sorted := He.free_ok X G (c.fact 9 (f := .free "sorted") rfl)
  f_str := He.free_ok X G (c.fact 10 (f := .free "str") rfl)
  f_tuple := He.free_ok X G (c.fact 11 (f := .free "tuple") rfl)
  f_zip := He.free_ok X G (c.fact 12 (f := .free "zip") rfl)
  f_set := He.free_ok X G (c.fact 13 (f := .free "set") rfl)
  f_enumerate := He.free_ok X G (c.fact 14 (f := .free "enumerate") rfl)
  g_net_rules := He.glo_ok X G (c.fact 15 (f := .glo "net_rules") rfl)
  F_net_rules := fF (c.def_ 0 (d := ⟨("net_rules", none), "net_rules", "net_rules", defArgs st_net_rules, defBody st_net_rules, defScope st_net_rules, [], []⟩) rfl) (fun _ _ _ _ _ _ us hl => match us, hl with | [_], _ => rfl)
  g_is_name := He.glo_ok X G (c.fact 16 (f := .glo "is_name") rfl)
  F_is_name := fF (c.def_ 1 (d := ⟨("is_name", none), "is_name", "is_name", defArgs st_is_name, defBody st_is_name, defScope st_is_name, [], []⟩) rfl) (fun _ _ _ _ _ _ us hl => match us, hl with | [_], _ => rfl)
  g_names_in := He.glo_ok X G (c.fact 17 (f := .glo "names_in") rfl)
  F_names_in := fF (c.def_ 2 (d := ⟨("names_in", none), "names_in", "names_in", defArgs st_names_in, defBody st_names_in, defScope st_names_in, [], []⟩) rfl) (fun _ _ _ _ _ _ us hl => match us, hl with | [_], _ => rfl)
  g_filled := He.glo_ok X G (c.fact 18 (f := .glo "filled") rfl)
  F_filled := fF (c.def_ 3 (d := ⟨("filled", none), "filled", "filled", defArgs st_filled, defBody st_filled, defScope st_filled, [], []⟩) rfl) (fun _ _ _ _ _ _ us hl => match us, hl with | [_, _], _ => rfl)
  g_matched := He.glo_ok X G (c.fact 19 (f := .glo "matched") rfl)
  F_matched := fF (c.def_ 4 (d := ⟨("matched", none), "matched", "matched", defArgs st_matched, defBody st_matched, defScope st_matched, [], []⟩) rfl) (fun _ _ _ _ _ _ us hl => match us, hl with | [_, _, _], _ => rfl)
  g_layers := He.glo_ok X G (c.fact 20 (f := .glo "layers") rfl)
  F_layers := fF (c.def_ 5 (d := ⟨("layers", none), "layers", "layers", defArgs st_layers, defBody st_layers, defScope st_layers, [], []⟩) rfl) (fun _ _ _ _ _ _ us hl => match us, hl with | [_], _ => rfl)
  g_check_rules := He.glo_ok X G (c.fact 21 (f := .glo "check_rules") rfl)
  F_check_rules := fF (c.def_ 6 (d := ⟨("check_rules", none), "check_rules", "check_rules", defArgs st_check_rules, defBody st_check_rules, defScope st_check_rules, [], []⟩) rfl) (fun _ _ _ _ _ _ us hl => match us, hl with | [_], _ => rfl)
  F_Closing___init__ := fF (c.def_ 7 (d := ⟨("Closing", some "__init__"), "__init__", "Closing.__init__", defArgs st_Closing___init__, defBody st_Closing___init__, defScope st_Closing___init__, [], []⟩) rfl) (fun _ _ _ _ _ _ us hl => match us, hl with | [_, _], _ => rfl)
  F_Closing_ways := fF (c.def_ 8 (d := ⟨("Closing", some "ways"), "ways", "Closing.ways", defArgs st_Closing_ways, defBody st_Closing_ways, defScope st_Closing_ways, [], []⟩) rfl) (fun _ _ _ _ _ _ us hl => match us, hl with | [_, _, _], _ => rfl)
  F_Closing_close := fF (c.def_ 9 (d := ⟨("Closing", some "close"), "close", "Closing.close", defArgs st_Closing_close, defBody st_Closing_close, defScope st_Closing_close, [], []⟩) rfl) (fun _ _ _ _ _ _ us hl => match us, hl with | [_], _ => rfl)
  g_world := He.glo_ok X G (c.fact 22 (f := .glo "world") rfl)
  F_world := fF (c.def_ 10 (d := ⟨("world", none), "world", "world", defArgs st_world, defBody st_world, defScope st_world, [], []⟩) rfl) (fun _ _ _ _ _ _ us hl => match us, hl with | [_], _ => rfl)
  g_fillings := He.glo_ok X G (c.fact 23 (f := .glo "fillings") rfl)
  F_fillings := fF (c.def_ 11 (d := ⟨("fillings", none), "fillings", "fillings", defArgs st_fillings, defBody st_fillings, defScope st_fillings, [], []⟩) rfl) (fun _ _ _ _ _ _ us hl => match us, hl with | [_, _], _ => rfl)
  g__law_next := He.glo_ok X G (c.fact 24 (f := .glo "_law_next") rfl)
  F__law_next := fF (c.def_ 12 (d := ⟨("_law_next", none), "_law_next", "_law_next", defArgs st__law_next, defBody st__law_next, defScope st__law_next, [], []⟩) rfl) (fun _ _ _ _ _ _ us hl => match us, hl with | [_, _], _ => rfl)
  g__law_same := He.glo_ok X G (c.fact 25 (f := .glo "_law_same") rfl)
  F__law_same := fF (c.def_ 13 (d := ⟨("_law_same", none), "_law_same", "_law_same", defArgs st__law_same, defBody st__law_same, defScope st__law_same, [], []⟩) rfl) (fun _ _ _ _ _ _ us hl => match us, hl with | [_, _], _ => rfl)
  g__law_turned := He.glo_ok X G (c.fact 26 (f := .glo "_law_turned") rfl)
  F__law_turned := fF (c.def_ 14 (d := ⟨("_law_turned", none), "_law_turned", "_law_turned", defArgs st__law_turned, defBody st__law_turned, defScope st__law_turned, [], []⟩) rfl) (fun _ _ _ _ _ _ us hl => match us, hl with | [_], _ => rfl)
  g__law_conj := He.glo_ok X G (c.fact 27 (f := .glo "_law_conj") rfl)
  F__law_conj := fF (c.def_ 15 (d := ⟨("_law_conj", none), "_law_conj", "_law_conj", defArgs st__law_conj, defBody st__law_conj, defScope st__law_conj, [], []⟩) rfl) (fun _ _ _ _ _ _ us hl => match us, hl with | [_, _, _, _], _ => rfl)
  g__law_step := He.glo_ok X G (c.fact 28 (f := .glo "_law_step") rfl)
  F__law_step := fF (c.def_ 16 (d := ⟨("_law_step", none), "_law_step", "_law_step", defArgs st__law_step, defBody st__law_step, defScope st__law_step, [], []⟩) rfl) (fun _ _ _ _ _ _ us hl => match us, hl with | [_, _, _, _, _, _], _ => rfl)
  g__law_trimmed := He.glo_ok X G (c.fact 29 (f := .glo "_law_trimmed") rfl)
  F__law_trimmed := fF (c.def_ 17 (d := ⟨("_law_trimmed", none), "_law_trimmed", "_law_trimmed", defArgs st__law_trimmed, defBody st__law_trimmed, defScope st__law_trimmed, [], []⟩) rfl) (fun _ _ _ _ _ _ us hl => match us, hl with | [_, _, _], _ => rfl)
  g__law_design := He.glo_ok X G (c.fact 30 (f := .glo "_law_design") rfl)
  F__law_design := fF (c.def_ 18 (d := ⟨("_law_design", none), "_law_design", "_law_design", defArgs st__law_design, defBody st__law_design, defScope st__law_design, [], []⟩) rfl) (fun _ _ _ _ _ _ us hl => match us, hl with | [_, _, _, _], _ => rfl)
  g__law_net := He.glo_ok X G (c.fact 31 (f := .glo "_law_net") rfl)
  F__law_net := fF (c.def_ 19 (d := ⟨("_law_net", none), "_law_net", "_law_net", defArgs st__law_net, defBody st__law_net, defScope st__law_net, [], []⟩) rfl) (fun _ _ _ _ _ _ us hl => match us, hl with | [_, _], _ => rfl)
  g__law_values := He.glo_ok X G (c.fact 32 (f := .glo "_law_values") rfl)
  F__law_values := fF (c.def_ 20 (d := ⟨("_law_values", none), "_law_values", "_law_values", defArgs st__law_values, defBody st__law_values, defScope st__law_values, [], []⟩) rfl) (fun _ _ _ _ _ _ us hl => match us, hl with | [_, _, _], _ => rfl)
  g__law_clock := He.glo_ok X G (c.fact 33 (f := .glo "_law_clock") rfl)
  F__law_clock := fF (c.def_ 21 (d := ⟨("_law_clock", none), "_law_clock", "_law_clock", defArgs st__law_clock, defBody st__law_clock, defScope st__law_clock, [], []⟩) rfl) (fun _ _ _ _ _ _ us hl => match us, hl with | [_, _, _, _], _ => rfl)
  g__law_all_rows := He.glo_ok X G (c.fact 34 (f := .glo "_law_all_rows") rfl)
  F__law_all_rows := fF (c.def_ 22 (d := ⟨("_law_all_rows", none), "_law_all_rows", "_law_all_rows", defArgs st__law_all_rows, defBody st__law_all_rows, defScope st__law_all_rows, [], []⟩) rfl) (fun _ _ _ _ _ _ us hl => match us, hl with | [_], _ => rfl)
  g__law_pairs := He.glo_ok X G (c.fact 35 (f := .glo "_law_pairs") rfl)
  F__law_pairs := fF (c.def_ 23 (d := ⟨("_law_pairs", none), "_law_pairs", "_law_pairs", defArgs st__law_pairs, defBody st__law_pairs, defScope st__law_pairs, [], []⟩) rfl) (fun _ _ _ _ _ _ us hl => match us, hl with | [_, _], _ => rfl)
  g__law_holds := He.glo_ok X G (c.fact 36 (f := .glo "_law_holds") rfl)
  F__law_holds := fF (c.def_ 24 (d := ⟨("_law_holds", none), "_law_holds", "_law_holds", defArgs st__law_holds, defBody st__law_holds, defScope st__law_holds, [], []⟩) rfl) (fun _ _ _ _ _ _ us hl => match us, hl with | [_], _ => rfl)
  g_law := He.glo_ok X G (c.fact 37 (f := .glo "law") rfl)
  F_law := fF (c.def_ 25 (d := ⟨("law", none), "law", "law", defArgs st_law, defBody st_law, defScope st_law, [], []⟩) rfl) (fun _ _ _ _ _ _ us hl => match us, hl with | [_], _ => rfl)
  g_ChiploreError := He.glo_ok X G (c.fact 38 (f := .glo "ChiploreError") rfl)
  g_TooWide := He.glo_ok X G (c.fact 39 (f := .glo "TooWide") rfl)
  g_UnfitRules := He.glo_ok X G (c.fact 40 (f := .glo "UnfitRules") rfl)
  g_Closing := He.glo_ok X G (c.fact 41 (f := .glo "Closing") rfl)
  c_Closing := He.cls_ok (c.fact 42 (f := .cls "Closing") rfl)
  n_Closing_rules := He.noat_ok (c.fact 43 (f := .noat "Closing" "rules") rfl)
  n_Closing_found := He.noat_ok (c.fact 44 (f := .noat "Closing" "found") rfl)
  n_Closing_tries := He.noat_ok (c.fact 45 (f := .noat "Closing" "tries") rfl)
  n_Closing_layers := He.noat_ok (c.fact 46 (f := .noat "Closing" "layers") rfl)
  m_Closing_ways := He.meth_ok (c.fact 47 (f := .meth "Closing" "ways") rfl)
  m_Closing_close := He.meth_ok (c.fact 48 (f := .meth "Closing" "close") rfl)
  k_Closing := He.mkr_ok (c.fact 49 (f := .mkr "Closing") rfl)
  i_MOST_FACTS := He.int_ok X G (c.fact 50 (f := .int "MOST_FACTS" 2000) rfl)
  i_MOST_TRIES := He.int_ok X G (c.fact 51 (f := .int "MOST_TRIES" 100000) rfl)
  x_TooWide := x.x_TooWide
  e_TooWide := x.e_TooWide
theorem z_super {K : PySem.W.Frag} {h : Heap} {mg : Str → Option Value} (X : K.In h) (G : h.Ns mainGlobals mg) (c : He.SaysD fa fn K) : mg "super" = none := He.free_ok X G (c.fact 52 (f := .free "super") rfl)
theorem z_str {K : PySem.W.Frag} {h : Heap} {mg : Str → Option Value} (X : K.In h) (G : h.Ns mainGlobals mg) (c : He.SaysD fa fn K) : mg "str" = none := He.free_ok X G (c.fact 10 (f := .free "str") rfl)
theorem z_glaw {K : PySem.W.Frag} {h : Heap} {mg : Str → Option Value} (X : K.In h) (G : h.Ns mainGlobals mg) (c : He.SaysD fa fn K) : mg "law" = some (.ref (He.ga K "law")) := He.glo_ok X G (c.fact 37 (f := .glo "law") rfl)
theorem z_law {K : PySem.W.Frag} (c : He.SaysD fa fn K) : ∃ fd, FunD K "law" "law" (defArgs st_law) (defBody st_law) (defScope st_law) [] [] (He.ga K "law") fd := c.def_ 25 (d := ⟨("law", none), "law", "law", defArgs st_law, defBody st_law, defScope st_law, [], []⟩) rfl
abbrev PR : Program := PySem.Challenge.pw_chiplore_k07_whole_facts_of_designs
def exB (K : PySem.W.Frag) (C : Addr) : Bool := PySem.W.excIn K C [.type "ValueError", .type "Exception", .type "BaseException", .type "object"] "ValueError.__new__" && (PySem.W.keepIn K (.ref C) &&
  (decide (PySem.W.subIn K (.ref C) (.type "BaseException") = some true) && (decide (PySem.W.typeIn K (.ref C) = some (.type "type")) && decide (PySem.W.exmOne K (.ref C) (.ref C) = some true))))
theorem exB_ok {K : PySem.W.Frag} {C : Addr} (h : exB K C = true) : RX0 K C ∧ PySem.W.exmOne K (.ref C) (.ref C) = some true := by
  obtain ⟨h1, h⟩ := He.ba h
  obtain ⟨h2, h⟩ := He.ba h
  obtain ⟨h3, h⟩ := He.ba h
  obtain ⟨h4, h5⟩ := He.ba h
  exact ⟨⟨h1, h2, of_decide_eq_true h3, of_decide_eq_true h4⟩, of_decide_eq_true h5⟩
theorem xf_of {w : World} {K : PySem.W.Frag} {mg : Str → Option Value} {base : Heap} (h : exB K (He.ga K "TooWide") = true) : Xf PR w K mg base := ⟨(exB_ok h).1, (exB_ok h).2⟩
def asR (g : Addr → Option Obj) (n : Nat) : List Addr := cStatics :: He.asD g n
abbrev AlR : Type := He.AlD × Bool
def obsR (n : Nat) (g : Addr → Option Obj) : AlR := (He.obsD fa fn (He.frG g (asR g n)), exB (He.frG g (asR g n)) (He.ga (He.frG g (asR g n)) "TooWide"))
def valR : AlR := (He.valD fn, true)
structure SaysR (w : World) (K : PySem.W.Frag) : Prop where
  c : He.SaysD fa fn K
  t : exB K (He.ga K "TooWide") = true
def hk : PySem.W.Hook where
  α := AlR
  obs := fun s => obsR 5 s.heap.get?
  val := fun _ => valR
  says := fun w h => ∃ K : PySem.W.Frag, K.In h ∧ SaysR w K
  of := fun w s e => by
    have e1 : He.obsD fa fn (He.frG s.heap.get? (asR s.heap.get? 5)) = He.valD fn := congrArg (fun z : AlR => z.1) e
    have e2 : exB (He.frG s.heap.get? (asR s.heap.get? 5)) (He.ga (He.frG s.heap.get? (asR s.heap.get? 5)) "TooWide") = true := congrArg (fun z : AlR => z.2) e
    exact ⟨_, He.frG_in, e1, e2⟩
  keeps := fun _ _ _ ⟨K, hK, c⟩ k => ⟨K, PySem.W.Frag.In.keeps hK k, c⟩
abbrev R : PySem.W.OpenRow := PySem.W.OpenLaw.row PySem.Challenge.rw_chiplore_k07_whole_facts_of_designs
def ob (s : PySem.W.SharedT) : AlR := obsR 5 (HandSHeadRun.getT s)
theorem ob_eq (s : PySem.W.SharedT) : ob s = hk.obs s.abs := by
  have e : HandSHeadRun.getT s = s.abs.heap.get? := funext (HandSHeadRun.getT_eq s)
  unfold ob
  rw [e]
  rfl
def loose : List Str := ([("ChiploreError" : Str), "TooWide", "UnfitRules", "net_rules", "MOST_FACTS", "MOST_TRIES", "is_name", "names_in", "filled", "matched", "layers", "check_rules", "Closing", "world", "fillings"] : List Str) ++
  ([("_law_next" : Str), "_law_same", "_law_turned", "_law_conj", "_law_step", "_law_trimmed", "_law_design", "_law_net", "_law_values", "_law_clock", "_law_all_rows", "_law_pairs", "_law_holds"] : List Str)
theorem run (w : World) : HandSHeadRun.RunEq R (PySem.W.view R.prog [32]) hk ob 14000 loose w := by
  intro os
  kernel_rfl
def spLaw (K : PySem.W.Frag) : Sp := fun vs H Q _ => spM K m_law 1 vs H Q (fun _ _ _ => False)
theorem law_ok {w : World} {K : PySem.W.Frag} {h : Heap} {mg : Str → Option Value} {f : Addr} (X : K.In h) (G : h.Ns mainGlobals mg) (hf : mg ("law" : Str) = some (.ref f)) (c : SaysR w K) :
    ∃ fd : FuncData, (∀ (s : Shared) (v : Value), BindsTo s fd ⟨[v], []⟩ [("script", v)]) ∧ ∀ base : Heap, K.In base → base.Ns mainGlobals mg → FnOk PR w K mg base L2.CX0 105 f fd ["script"] (spLaw K) := by
  obtain ⟨fd, F⟩ := z_law c.c
  have Fn : Fun K "law" "law" st_law (He.ga K "law") fd := He5.fun_of F
  have e := hf.symm.trans (z_glaw X G c.c)
  have ef : f = He.ga K "law" := by injection e with e; injection e
  subst ef
  have b := FunD.bindsA (ps := ["script"]) F fun _ _ _ _ _ _ us hl => match us, hl with | [_], _ => rfl
  refine ⟨fd, fun s v => b s [v] rfl, fun base KB GB => ?_⟩
  have Z : Zf PR w K mg base := zf X G c.c rfl (xf_of c.t)
  have D := d_law Z Fn
  refine ⟨fun vs H Q E hs => D.many vs H Q _ hs, fun A outer s H args us vs Q E hr e0 hb r hs => codeAny_mono (D.goes A outer s H args us vs Q (fun _ _ _ => False) (Rm.of hr (by decide) (by decide)) e0 hb r hs) (fun r s' h => ?_)⟩
  cases r with
  | ok f =>
    cases f with
    | ret u => exact h
    | _ => exact h
  | error e =>
    obtain ⟨_, _, _, _, _, _, _, _, _, _, _, _, z⟩ := h
    exact z.elim
theorem law_pre {K : PySem.W.Frag} {H : Hp} {a : Addr} {ns : List Int} (hS : SqL K H a (ns.map V.int)) : spLaw K [.ref a] H (fun v _ => v = .bl true) fun _ _ _ => False := by
  refine ⟨fun b => if b = a then H a else none, fun _ => none, [.scr ns], fun d _ => d = .bl true, fun _ _ => False, ⟨fun b u q => ?_, fun b u q => by cases q⟩, ?_, rfl, ⟨ns, rfl, fun _ => rfl⟩, fun v H' F' S' d x sr r q => ?_, fun _ _ _ _ _ _ _ _ _ z => z.elim⟩
  · have q' : (if b = a then H a else none) = some u := q
    split at q'
    · rename_i e
      rw [e]; exact q'
    · cases q'
  · refine .cons ?_ .nil
    unfold RelD
    refine ⟨a, rfl, ?_⟩
    have ea : (fun b => if b = a then H a else none) a = H a := if_pos rfl
    rcases hS with (h | ⟨o, h⟩) | h
    · exact .inl (.inl (ea.trans h))
    · exact .inl (.inr ⟨o, ea.trans h⟩)
    · exact .inr h
  · subst q
    exact r.bl_e
end K07
open PySem PySem.W PySem.Calls PyProof.Rows
theorem PySem.Challenge.cw_chiplore_k07_whole_facts_of_designs_holds : PySem.Challenge.rw_chiplore_k07_whole_facts_of_designs.Holds := by
  w_on; o_law
  refine HandSHeadRun.head_any (r := OpenLaw.row PySem.Challenge.rw_chiplore_k07_whole_facts_of_designs) (q := view (OpenLaw.row PySem.Challenge.rw_chiplore_k07_whole_facts_of_designs).prog [32]) (H := K07.hk) (ob := K07.ob) (M := 14000) (loose := K07.loose) (d := HandSHeadRun.topDef (OpenLaw.row PySem.Challenge.rw_chiplore_k07_whole_facts_of_designs).prog 32) (kwd := []) K07.ob_eq
    (by kernel_rfl) (fun s => by kernel_rfl) K07.run (by kernel_rfl) (by kernel_rfl) (by kernel_rfl) (by rfl) (by first | assumption | decide +kernel) (by decide +kernel) ⟨rfl, rfl, rfl, rfl, rfl, by decide +kernel⟩ ?hw ?hc
  case hw => w_witness2
  case hc =>
    refine L2.walk_ofE (l := PySem.Challenge.rw_chiplore_k07_whole_facts_of_designs) (n := 63) (k := 105) (x := "script") (CX := L2.CX0) rfl (by decide) (by kernel_rfl) ⟨rfl, by decide, by decide⟩ ?F (fun _ _ _ _ z => z)
    intro w mg fa h Y G hmg0
    obtain ⟨K, KX, c⟩ := Y
    have hmg : mg ("law" : PySem.Str) = some (.ref fa) := by
      have e : (HandSHeadRun.topDef (OpenLaw.row PySem.Challenge.rw_chiplore_k07_whole_facts_of_designs).prog 32).name = ("law" : PySem.Str) := by kernel_rfl
      rw [← e]
      exact hmg0
    obtain ⟨fd, hb, hF⟩ := K07.law_ok KX G hmg c
    exact ⟨K, fd, K07.spLaw K, KX, hb, fun H a ns hl _ hS => K07.law_pre hS, hF⟩
