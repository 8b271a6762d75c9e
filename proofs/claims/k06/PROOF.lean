import PyProof.Rows.All
import Wide.All
import OpenK.AllK
import Wide.FinOn
import HandS.ForMost
import HandS.Exc
import HandS.ExcOwn
import HandS.WordsExc
import HandS.IsInst
import HandS.DictComp
import KE.KDictKeyed
import HandS.CallLocal
import HandS.ExcInit
import KE.KExcSuper
import KE.KExcMake
import HandS.ClsMeth
import HandS.ExcField
import HandS.ExcIs
import HandS.TryOnly
import HandS.HeadHook4
import HandS.HeadNt
import HandS.HeadHook3
import HandS.More
import HandS.TupAny
import HandS.Deep
import HandS.SortInts
import HandS.NoneIn
import KE.SortData
import HandS.Conv
import HandS.Zip0
import KE.KDictZip
import HandS.Defaults
import HandS.TupLe
import HandS.Head0
import HandS.Head1
import HandS.Head2
import HandS.HeadEnd
import HandS.HeadHook1
import HandS.HeadHook2
import HandS.Head3
import PySem.Challenge.RW_chiplore_k06_whole_knowing_of_designs
set_option Elab.async false
set_option linter.all false
set_option maxRecDepth 100000
set_option maxHeartbeats 0
namespace DL
open PySem PySem.Spec L2
section
variable {β γ : Type}
def vN : List (NestedKey × β) → NestedKey → Option β
  | [], _ => none
  | (k', x) :: r, k => if k' = k then some x else vN r k
def pN (f : β → β) (n : β) (l : List (NestedKey × β)) (k : NestedKey) : List (NestedKey × β) :=
  if (vN l k).isSome = true then l.map (fun p => if p.1 = k then (p.1, f p.2) else p) else l ++ [(k, n)]
theorem pN_len (f : β → β) (n : β) (l : List (NestedKey × β)) (k : NestedKey) : (pN f n l k).length ≤ l.length + 1 := by
  unfold pN
  split
  · rw [List.length_map]; omega
  · simp
theorem paired_vN {R : NestedKey × β → NestedKey × γ → Prop} (hk : ∀ p q, R p q → p.1 = q.1) {k : NestedKey} : ∀ {l : List (NestedKey × β)} {m : List (NestedKey × γ)}, Paired R l m → (vN l k = none ∧ vN m k = none) ∨ ∃ x y, vN l k = some x ∧ vN m k = some y ∧ R (k, x) (k, y)
  | _, _, .nil => .inl ⟨rfl, rfl⟩
  | (k1, x) :: _, (k2, y) :: _, .cons h t => by
    obtain rfl : k1 = k2 := hk _ _ h
    unfold vN
    by_cases e : k1 = k
    · rw [if_pos e, if_pos e]
      exact .inr ⟨x, y, rfl, rfl, e ▸ h⟩
    · rw [if_neg e, if_neg e]
      exact paired_vN hk t
theorem paired_map {R : NestedKey × β → NestedKey × γ → Prop} (hk : ∀ p q, R p q → p.1 = q.1) {k : NestedKey} {f : β → β} {g : γ → γ} (hf : ∀ x y, R (k, x) (k, y) → R (k, f x) (k, g y)) :
    ∀ {l : List (NestedKey × β)} {m : List (NestedKey × γ)}, Paired R l m → Paired R (l.map fun p => if p.1 = k then (p.1, f p.2) else p) (m.map fun p => if p.1 = k then (p.1, g p.2) else p)
  | _, _, .nil => .nil
  | (k1, x) :: _, (k2, y) :: _, .cons h t => by
    obtain rfl : k1 = k2 := hk _ _ h
    rw [List.map_cons, List.map_cons]
    refine .cons ?_ (paired_map hk hf t)
    by_cases e : k1 = k
    · subst e
      rw [if_pos rfl, if_pos rfl]
      exact hf _ _ h
    · rw [if_neg e, if_neg e]
      exact h
theorem paired_pN {R : NestedKey × β → NestedKey × γ → Prop} (hk : ∀ p q, R p q → p.1 = q.1) {k : NestedKey} {f : β → β} {g : γ → γ} {n : β} {n' : γ} (hf : ∀ x y, R (k, x) (k, y) → R (k, f x) (k, g y)) (hn : R (k, n) (k, n'))
    {l : List (NestedKey × β)} {m : List (NestedKey × γ)} (h : Paired R l m) : Paired R (pN f n l k) (pN g n' m k) := by
  unfold pN
  rcases paired_vN hk (k := k) h with ⟨e1, e2⟩ | ⟨x, y, e1, e2, _⟩
  · rw [e1, e2, if_neg (by simp), if_neg (by simp)]
    exact Paired.snoc h hn
  · rw [e1, e2, if_pos (by simp), if_pos (by simp)]
    exact paired_map hk hf h
end
theorem atKey_vN (k : NestedKey) : ∀ ys : List (NestedKey × Addr × Value), atKey ys k = vN ys k
  | [] => rfl
  | (k', p) :: r => by
    have ih := atKey_vN k r
    unfold vN
    by_cases e : k' = k
    · rw [if_pos e]; simp [atKey, e]
    · rw [if_neg e, ← ih]; simp [atKey, e]
theorem stored_pN (ys : List (NestedKey × Addr × Value)) (k : NestedKey) (b : Addr) (u : Value) : storedH ys k b u = pN (fun p => (p.1, u)) (b, u) ys k := by
  unfold storedH pN
  rw [atKey_vN]
  split
  · refine List.map_congr_left fun x _ => ?_
    unfold putAt
    rfl
  · rfl
/-- the keys and values at the dict, by where the keys stand -/
abbrev XN := List (NestedKey × Addr × V)
abbrev YN := List (NestedKey × Addr × Value)
def RKN (p : NestedKey × Addr × V) (q : NestedKey × Addr × Value) : Prop := p.1 = q.1 ∧ p.2.1 = q.2.1 ∧ RelV p.2.2 q.2.2
abbrev KN : XN → YN → Prop := Paired RKN
def entN (w : World) (x : NestedKey × Addr × Value) : DictEntry := ⟨x.1.hash w, .ref x.2.1, x.2.2⟩
/-- what is true of the object of a dict with nested keys -/
def NPhi (w : World) (a : Addr) (xs : XN) (h : Heap) : Prop := xs.length ≤ sizeLine ∧ (a == sysModules) = false ∧ ∃ ys : YN, KN xs ys ∧ ∃ o es ep, h.get? a = some o ∧ o.ExactDict ∧ o.data = .dict es ep ∧ es.toList = ys.map (entN w) ∧ (ys.map (·.1)).Nodup
def NObj (w : World) (a : Addr) (xs : XN) : HO := .ext (NPhi w a xs)
section
variable {P : Program} {w : World} {H : Hp} {h : Heap} {a : Addr} {xs : XN}
theorem nobj_ok (p : NPhi w a xs h) : ObjOk P w H h a (NObj w a xs) := by
  refine ⟨p, ?_, fun h1 h2 q k => ?_⟩
  · obtain ⟨_, _, _, _, o, _, _, e, _⟩ := p
    exact ⟨o, e⟩
  · obtain ⟨z, y, ys, r, o, es, ep, e, c⟩ := q
    exact ⟨z, y, ys, r, o, es, ep, k _ e, c⟩
theorem nobj_of (ok : HOk P w H h) (e : H a = some (NObj w a xs)) : NPhi w a xs h := (show ObjOk P w H h a (NObj w a xs) from ok a _ e).1
end
mutual
inductive NK (K : PySem.W.Frag) (H : Hp) : NestedKey → V → Prop
  | none : NK K H .none .non
  | bool {b : Bool} {i : Int} : i = (if b = true then 1 else 0) → NK K H (.num i) (.bl b)
  | int (i : Int) : NK K H (.num i) (.int i)
  | text (x : Str) : NK K H (.text x) (.str x)
  | tup {a : Addr} {xs : List V} {ks : List NestedKey} : SqT K H a xs → NKs K H ks xs → NK K H (.tup ks) (.ref a)
inductive NKs (K : PySem.W.Frag) (H : Hp) : List NestedKey → List V → Prop
  | nil : NKs K H [] []
  | cons {k : NestedKey} {v : V} {ks : List NestedKey} {vs : List V} : NK K H k v → NKs K H ks vs → NKs K H (k :: ks) (v :: vs)
end
section
variable {X : Cx} {pins : List (Addr × Obj)} {σ : L2.St} {H : Hp} {s : Shared}
mutual
theorem NK.is (I : Inv X pins σ H s) : ∀ (k : NestedKey) (v : V) (u : Value), NK X.K H k v → RelV v u → NestedIs s.heap k u
  | .none, _, u, h, r => by
    cases h
    cases (show u = Value.none from r)
    exact .none
  | .num i, _, u, h, r => by
    cases h with
    | @bool b _ e =>
      cases (show u = Value.bool b from r)
      exact .bool e
    | int _ =>
      obtain ⟨t, rfl⟩ := (show ∃ t, u = Value.int i t from r)
      exact .int _ _
  | .text x, _, u, h, r => by
    cases h
    obtain ⟨t, rfl⟩ := (show ∃ t, u = Value.str x t from r)
    exact .text _ _
  | .tup ks, _, u, h, r => by
    cases h with
    | @tup a xs _ h1 h2 =>
      cases (show u = Value.ref a from r)
      obtain ⟨its, rv, ⟨o, e1, e2, n, e3⟩, _⟩ := I.tuple h1
      exact .tup e1 e2 e3 (by simpa using NKs.is I ks xs its h2 rv)
theorem NKs.is (I : Inv X pins σ H s) : ∀ (ks : List NestedKey) (vs : List V) (us : List Value), NKs X.K H ks vs → Vals vs us → NestedAll s.heap ks us
  | [], _, _, h, r => by
    cases h
    cases r
    exact .nil
  | k :: ks, _, _, h, r => by
    cases h with
    | cons h1 h2 =>
      cases r with
      | cons r1 r2 => exact .cons (NK.is I k _ _ h1 r1) (NKs.is I ks _ _ h2 r2)
end
end
/-- a key that can stand in such a dict -/
def KeyN (K : PySem.W.Frag) (H : Hp) (k : NestedKey) (v : V) : Prop := NK K H k v ∧ k.depth ≤ 8 ∧ ∃ ks, k = .tup ks
theorem KeyN.ref {K : PySem.W.Frag} {H : Hp} {k : NestedKey} {v : V} (h : KeyN K H k v) : ∃ b, v = .ref b := by
  obtain ⟨h, _, ks, rfl⟩ := h
  cases h
  exact ⟨_, rfl⟩
/-- at a stands such a dict -/
def NAt (K : PySem.W.Frag) (w : World) (H : Hp) (a : Addr) (xs : XN) : Prop := H a = some (NObj w a xs) ∧ ∀ x ∈ xs, KeyN K H x.1 (.ref x.2.1)
section
variable {X : Cx} {pins : List (Addr × Obj)} {σ : L2.St} {H : Hp} {s : Shared} {a : Addr} {xs : XN} {k : NestedKey} {y v : V} {u r : Value} {A : Around} {E : Value → Shared → Prop}
theorem KeyN.is (I : Inv X pins σ H s) {b : Addr} (h : KeyN X.K H k (.ref b)) : (nestedKind X.prog X.w).is s.heap k b := ⟨NK.is I _ _ _ h.1 rfl, h.2.1⟩
theorem kn_keys {w : World} : ∀ {xs : XN} {ys : YN}, KN xs ys → ∀ y ∈ ys, ∃ x ∈ xs, x.1 = y.1 ∧ x.2.1 = y.2.1
  | _, _, .nil, y, hy => nomatch hy
  | x :: _, z :: _, .cons h t, y, hy => by
    rcases List.mem_cons.mp hy with e | hy
    · subst e
      exact ⟨x, List.mem_cons_self, h.1, h.2.1⟩
    · obtain ⟨x', hx, q⟩ := kn_keys (w := w) t y hy
      exact ⟨x', List.mem_cons_of_mem _ hx, q⟩
theorem nat_of (I : Inv X pins σ H s) (h : NAt X.K X.w H a xs) : xs.length ≤ sizeLine ∧ (a == sysModules) = false ∧ ∃ ys, KN xs ys ∧ s.heap.DictOfH (nestedKind X.prog X.w) a ys := by
  obtain ⟨z, y, ys, r, o, es, ep, h1, h2, h3, h4, h5⟩ := nobj_of I.hok h.1
  refine ⟨z, y, ys, r, o, es, ep, h1, h2, h3, h4, fun p hp => ?_, h5⟩
  obtain ⟨x, hx, e1, e2⟩ := kn_keys (w := X.w) r p hp
  rw [← e1, ← e2]
  exact (h.2 x hx).is I
theorem room8 {A : Around} (hu : A.units + 9 < cLine) : (nestedKind X.prog X.w).room A.in1 := show A.in1.units + 8 < cLine by rw [Around.in1_units]; omega
theorem n_getItem {Q : Value → Shared → Prop} {b0 : Addr} (hu : A.units + 9 < cLine) (I : Inv X pins σ H s) (g : NAt X.K X.w H a xs) (hk : KeyN X.K H k y) (ry : RelV y u) (hv : vN xs k = some (b0, v)) (h : ∀ w' s', Inv X pins σ H s' → RelV v w' → Q w' s') :
    wpAny (model X.prog X.w) A (getItem (.ref a) u) Q E s := by
  obtain ⟨b, rfl⟩ := hk.ref
  cases (show u = Value.ref b from ry)
  obtain ⟨z, hd, ys, rel, dd⟩ := nat_of I g
  rcases paired_vN (fun p q h => h.1) (k := k) rel with ⟨e1, _⟩ | ⟨x, p, e1, e2, e3⟩
  · rw [e1] at hv; cases hv
  · rw [e1] at hv; cases hv
    exact wpAny_getItem_heap (room8 (X := X) hu) (hk.is I) dd (by rw [atKey_vN]; exact e2) (h _ _ (I.tok _) e3.2.2)
theorem n_in {Q : Value → Shared → Prop} (hu : A.units + 9 < cLine) (I : Inv X pins σ H s) (g : NAt X.K X.w H a xs) (hk : KeyN X.K H k y) (ry : RelV y u) (h : ∀ s', Inv X pins σ H s' → Q (.bool (vN xs k).isSome) s') :
    wpAny (model X.prog X.w) A (compareOp .In u (.ref a)) Q E s := by
  obtain ⟨b, rfl⟩ := hk.ref
  cases (show u = Value.ref b from ry)
  obtain ⟨z, hd, ys, rel, dd⟩ := nat_of I g
  refine wpAny_in_heap (room8 (X := X) hu) (hk.is I) hd dd ?_
  have e : (atKey ys k).isSome = (vN xs k).isSome := by
    rw [atKey_vN]
    rcases paired_vN (fun p q h => h.1) (k := k) rel with ⟨e1, e2⟩ | ⟨x, p, e1, e2, e3⟩ <;> rw [e1, e2] <;> rfl
  rw [e]
  exact h _ (I.tok _)
theorem n_notIn {Q : Value → Shared → Prop} (hu : A.units + 9 < cLine) (I : Inv X pins σ H s) (g : NAt X.K X.w H a xs) (hk : KeyN X.K H k y) (ry : RelV y u) (h : ∀ s', Inv X pins σ H s' → Q (.bool (!(vN xs k).isSome)) s') :
    wpAny (model X.prog X.w) A (compareOp .NotIn u (.ref a)) Q E s := by
  obtain ⟨b, rfl⟩ := hk.ref
  cases (show u = Value.ref b from ry)
  obtain ⟨z, hd, ys, rel, dd⟩ := nat_of I g
  refine PyProof.Rows.wpAny_notIn_heap (room8 (X := X) hu) (hk.is I) hd dd ?_
  have e : (atKey ys k).isSome = (vN xs k).isSome := by
    rw [atKey_vN]
    rcases paired_vN (fun p q h => h.1) (k := k) rel with ⟨e1, e2⟩ | ⟨x, p, e1, e2, e3⟩ <;> rw [e1, e2] <;> rfl
  rw [e]
  exact h _ (I.tok _)
/-- d[k] = v on the table -/
def putX (xs : XN) (k : NestedKey) (b : Addr) (v : V) : XN := pN (fun p => (p.1, v)) (b, v) xs k
theorem n_write {h' : Heap} {t' : Nat} {b : Addr} (I : Inv X pins σ H s) (mu : Mut (H a)) (hl : xs.length < sizeLine) (hd : (a == sysModules) = false) {ys : YN} (rel : KN xs ys) (rv : RelV v r)
    (dd' : h'.DictOfH (nestedKind X.prog X.w) a (storedH ys k b r)) (hs : Heap.SameBut a s.heap h') : Inv X pins σ (upd H a (NObj X.w a (putX xs k b v))) { s with heap := h', toks := t' } := by
  obtain ⟨q, es, ep, hq, h2, h3, h4, _, h5⟩ := dd'
  have hl' : (putX xs k b v).length ≤ sizeLine := by
    have := pN_len (fun p => (p.1, v)) (b, v) xs k
    unfold putX
    omega
  refine d_write I mu hs ⟨q, hq⟩ (nobj_ok ⟨hl', hd, _, ?_, q, es, ep, hq, h2, h3, h4, h5⟩)
  rw [stored_pN]
  exact paired_pN (fun p q h => h.1) (fun x y z => ⟨z.1, z.2.1, rv⟩) ⟨rfl, rfl, rv⟩ rel
theorem mut_n {w : World} (e : H a = some (NObj w a xs)) : Mut (H a) := by rw [e]; exact True.intro
theorem n_setItem {Q : Unit → Shared → Prop} {b : Addr} (hu : A.units + 9 < cLine) (I : Inv X pins σ H s) (g : NAt X.K X.w H a xs) (hl : xs.length < sizeLine) (hk : KeyN X.K H k (.ref b)) (rv : RelV v r)
    (h : ∀ s', Inv X pins σ (upd H a (NObj X.w a (putX xs k b v))) s' → Q () s') : wpAny (model X.prog X.w) A (setItem (.ref a) (.ref b) r) Q E s := by
  obtain ⟨z, hd, ys, rel, dd⟩ := nat_of I g
  have hz : ys.length ≤ sizeLine := by rw [← Paired.length rel]; exact z
  exact wpAny_setItem_heap (hsz := hz) (room8 (X := X) hu) (hk.is I) dd fun h' dd' hs => h _ (n_write I (mut_n g.1) hl hd rel rv dd' hs)
theorem n_typeIs (I : Inv X pins σ H s) (g : NAt X.K X.w H a xs) : s.TypeIs (.ref a) "dict" := by
  obtain ⟨z, hd, ys, rel, dd⟩ := nat_of I g
  exact dd.typeIs
theorem n_empty {P : Program} {w : World} {H : Hp} (h : Heap) (hb : sysModules < h.objs.size) : ObjOk P w H (h.push { cls := .type "dict", data := .dict #[] }) h.objs.size (NObj w h.objs.size []) :=
  nobj_ok ⟨Nat.zero_le _, beq_eq_false_iff_ne.mpr (Ne.symm (Nat.ne_of_lt hb)), [], .nil, _, #[], 0, Heap.get?_push_size _ rfl, ⟨rfl, rfl, rfl⟩, rfl, rfl, List.nodup_nil⟩
end
def tNGet (K : PySem.W.Frag) (w : World) (td ty : TE) : TE := fun σ H Q => td σ H fun x H1 => ty σ H1 fun y H2 => ∃ a xs k b0 v, x = .ref a ∧ NAt K w H2 a xs ∧ KeyN K H2 k y ∧ vN xs k = some (b0, v) ∧ Q v H2
def rNIn (K : PySem.W.Frag) (w : World) (neg : Bool) : R2 := fun y x H Q => ∃ a xs k, x = .ref a ∧ NAt K w H a xs ∧ KeyN K H k y ∧ Q (.bl (if neg then !(vN xs k).isSome else (vN xs k).isSome)) H
def sNPut (K : PySem.W.Frag) (w : World) (td ty tv : TE) : TS := fun D σ H => tv σ H fun v H1 => td σ H1 fun x H2 => ty σ H2 fun y H3 => ∃ a xs k b, x = .ref a ∧ y = .ref b ∧ NAt K w H3 a xs ∧ KeyN K H3 k y ∧ xs.length < sizeLine ∧ D.nx σ (upd H3 a (NObj w a (putX xs k b v)))
section
variable {X : Cx} {o i e value : Expr} {pos pos' : Pos} {td ty tv : TE}
theorem pe_nget (hu : X.A.units + 9 < cLine) (ho : PE X o td) (hi : PE X i ty) (hs : NoSl i) : PE X (.Subscript o i pos) (tNGet X.K X.w td ty) := by
  refine ⟨fun pins s σ H Q I h => ?_⟩
  refine subD_of PySem.F.slot_dict_getitem.lookup hs (thn (ho.run pins s σ H _ I h) fun u s1 ⟨x, H1, I1, rx, q1⟩ => thn (hi.run pins s1 σ H1 _ I1 q1) fun iv s2 ⟨y, H2, I2, ry, a, xs, k, b0, v, ex, g, hk, hv, q2⟩ => ?_)
  subst ex
  obtain rfl : u = Value.ref a := rx
  exact ⟨n_typeIs I2 g, n_getItem hu I2 g hk ry hv fun w' s3 I3 rw' => ⟨v, H2, I3, rw', q2⟩⟩
theorem op_nin (hu : X.A.units + 9 < cLine) : OpR X (compareOp .In) (rNIn X.K X.w false) := by
  intro pins s σ H x y v u Q I rx ry h
  obtain ⟨a, xs, k, rfl, g, hk, q⟩ := h
  obtain rfl : u = Value.ref a := ry
  exact n_in hu I g hk rx fun s3 I3 => ⟨.bl (vN xs k).isSome, H, I3, rfl, q⟩
theorem op_nnin (hu : X.A.units + 9 < cLine) : OpR X (compareOp .NotIn) (rNIn X.K X.w true) := by
  intro pins s σ H x y v u Q I rx ry h
  obtain ⟨a, xs, k, rfl, g, hk, q⟩ := h
  obtain rfl : u = Value.ref a := ry
  exact n_notIn hu I g hk rx fun s3 I3 => ⟨.bl (!(vN xs k).isSome), H, I3, rfl, q⟩
theorem ps_nput (hu : X.A.units + 9 < cLine) (ho : PE X o td) (hi : PE X i ty) (hv : PE X value tv) (hs : swapsWith value (some (.Subscript o i pos')) pos.line X.env = pure false) :
    PS X (.Assign [.Subscript o i pos'] value pos) (sNPut X.K X.w td ty tv) := by
  refine ⟨fun pins s σ H D I h => ?_⟩
  refine wpAny_Assign_Subscript (thn (hv.run pins s σ H _ I h) fun r s1 ⟨v, H1, I1, rv, q1⟩ => thn (ho.run pins s1 σ H1 _ I1 q1) fun u s2 ⟨x, H2, I2, rx, q2⟩ => thn (hi.run pins s2 σ H2 _ I2 q2) fun iv s3 ⟨y, H3, I3, ry, a, xs, k, b, ex, ey, g, hk, hl, q3⟩ => ?_) hs
  subst ex ey
  obtain rfl : u = Value.ref a := rx
  obtain rfl : iv = Value.ref b := ry
  exact n_setItem hu I3 g hl hk rv fun s4 I4 => ⟨σ, _, I4, q3⟩
def tDNewN (w : World) : TE := fun _ H Q => ∀ p, H p = none → Q (.ref p) (upd H p (NObj w p []))
theorem pe_dnewN : PE X (.Dict [] [] pos) (tDNewN X.w) := ⟨fun pins s σ H Q I h =>
  wpAny_Dict_empty ⟨.ref s.heap.objs.size, _, I.laid (a := s.heap.objs.size) (o := NObj X.w s.heap.objs.size []) (t' := s.toks) (fun _ _ q => Heap.get?_push_of_some _ q) (Nat.le_refl _) (n_empty s.heap I.big), rfl, h _ (I.hok.fresh (Nat.le_refl _))⟩⟩
end
end DL
namespace DL
open PySem PySem.Spec PyProof.Rows L2
section
variable {X : Cx} {pins : List (Addr × Obj)} {σ : L2.St} {H : Hp} {s : Shared} {E : Value → Shared → Prop} {D b : Addr} {xs : XN} {k : NestedKey} {v : V} {r : Value}
theorem n_dictSet {Q : Unit → Shared → Prop} (hu : X.A.units + 9 < cLine) (I : Inv X pins σ H s) (g : NAt X.K X.w H D xs) (hl : xs.length < sizeLine) (hk : KeyN X.K H k (.ref b)) (rv : RelV v r)
    (h : ∀ s', Inv X pins σ (upd H D (NObj X.w D (putX xs k b v))) s' → Q () s') : wpAny (model X.prog X.w) X.A (dictSet D (.ref b) r) Q E s := by
  obtain ⟨z, hd, ys, rel, dd⟩ := nat_of I g
  have hz : ys.length ≤ sizeLine := by rw [← Paired.length rel]; exact z
  exact wpAny_dictSet_heap (hsz := hz) (show X.A.units + 8 < cLine by omega) (hk.is I) dd fun h' dd' hs => h _ (n_write I (mut_n g.1) hl hd rel rv dd' hs)
end
section
variable {X : Cx}
/-- {k: v for target in iter if ..}, keys nested tuples: D the new dict -/
def tDcN (K : PySem.W.Frag) (w : World) (wi : TI) (g : TG) (tt : TT) (tk tv : TE) (vs : List Nat) : TE := fun σ H Q => wi σ H fun J H1 => ∀ D, H1 D = none → ∃ W : Nat → Nat → Hp → Prop, (∃ m, W 0 m (upd H1 D (NObj w D []))) ∧ ∀ i m H, W i m H →
  (J.stop i H ∧ Q (.ref D) H) ∨ (J.go i H ∧ ∃ Nx : Hp → Prop, (∀ H', Nx H' → ∃ m', m' < m ∧ W (i + 1) m' H') ∧ ∀ x H', J.yld i H x H' → g x (wipe σ vs) H' fun σ2 H2 => wipe σ2 vs = wipe σ vs ∧ tt σ2 H2 fun c H3 =>
    if c = true then tk σ2 H3 fun y H4 => tv σ2 H4 fun z H5 => ∃ xs k b, y = .ref b ∧ NAt K w H5 D xs ∧ KeyN K H5 k y ∧ xs.length < sizeLine ∧ Nx (upd H5 D (NObj w D (putX xs k b z))) else Nx H3)
theorem dcn_core {pins : List (Addr × Obj)} {s : Shared} {σ : L2.St} {H : Hp} {Q : VK} {kx vx tg iter : Expr} {ifs : List Expr} {scope : Scope} {own : List (Str × Nat)} {pos pos' : Pos} {wi : TI} {g : TG} {tt : TT} {tk tv : TE} {use : Option (Value → Sem Unit)} {Qf : Value → Shared → Prop}
    (hu : X.A.units + 9 < cLine) (hc : X.calm = true) (hN : X.N.Nodup) (I : Inv X pins σ H s) (hi : PI X tg iter wi) (ok : BlkOk X.N X.env.scope scope own)
    (hg : ∀ (s : Shared) (H : Hp) (C : Addr) (cl : List (Str × Addr)) (fp : List Addr), PG (X.blk s H scope (compEnvC scope cl C X.env) fp) tg g) (ht : ∀ (s : Shared) (H : Hp) (C : Addr) (cl : List (Str × Addr)) (fp : List Addr), PTs (X.blk s H scope (compEnvC scope cl C X.env) fp) ifs tt)
    (hk : ∀ (s : Shared) (H : Hp) (C : Addr) (cl : List (Str × Addr)) (fp : List Addr), PE (X.blk s H scope (compEnvC scope cl C X.env) fp) kx tk)
    (he : ∀ (s : Shared) (H : Hp) (C : Addr) (cl : List (Str × Addr)) (fp : List Addr), PE (X.blk s H scope (compEnvC scope cl C X.env) fp) vx tv) (hs : ∀ x, foldedSetIterable iter X.env x = pure x)
    (h : tDcN X.K X.w wi g tt tk tv (own.map (·.2)) σ H Q)
    (hRR : ∀ D C s' m H', Inv X pins σ H' s' → Q (.ref D) H' → s'.heap.Ns C m → FpOk X pins H' C → compPost (model X.prog X.w) X.A X.xe use Qf (.ref D) C (.ok .next) s') :
    wpAny (model X.prog X.w) X.A (comprehension (.DictComp kx vx [⟨tg, iter, ifs, 0⟩] scope pos) scope X.env pos' newDict false (eval iter X.env) use) Qf X.xe s := by
  have hfree : ∀ y ∈ scope.names, y.2 = .free → ∃ c, X.env.cells.lookup y.1 = some c := fun y hy e => (ok.free y hy e).elim (fun q => I.ok.has _ (.inl q)) fun q => I.ok.has _ (.inr q)
  refine wpAny_comprehension_free (use := use) rfl hs (closure_ok hfree) ok.kind (fun y hy e => by rw [ok.uniq y hy, e])
    (thn (hi.run pins s σ H _ I h) fun xv s1 hx => thn hx fun itv s2 h2 => ?_)
  obtain ⟨it, fp, tn, J, H2, e, I2, T, st2, f2, q⟩ := h2
  subst e
  refine wpAny_newObj_type (newEnv_comp ?_)
  generalize hD : s2.heap.objs.size = D
  have hDn : H2 D = none := I2.hok.fresh (Nat.le_of_eq hD)
  obtain ⟨W, ⟨m0, w0⟩, turn⟩ := q D hDn
  generalize hs3 : ({ s2 with heap := s2.heap.push { cls := .type "dict", data := .dict #[] } } : Shared) = s3
  have I3 : Inv X pins σ (upd H2 D (NObj X.w D [])) s3 := by
    rw [← hs3]
    refine I2.laid (t' := s2.toks) (fun b o e => Heap.get?_push_of_some _ e) (Nat.le_of_eq hD) ?_
    rw [← hD]
    exact n_empty s2.heap I2.big
  have h3 : s3.heap = s2.heap.push { cls := .type "dict", data := .dict #[] } := by rw [← hs3]
  have sz : ∀ b ∈ fp, b < s2.heap.objs.size := fun b hb => by
    obtain ⟨o, e, _⟩ := T.obj _ _ st2 b hb
    exact Heap.lt_size e
  have f3 : ∀ b ∈ fp, FpOk X pins (upd H2 D (NObj X.w D [])) b ∧ b < s3.heap.objs.size := fun b hb => by
    have hlt := sz b hb
    refine ⟨⟨?_, (f2 b hb).2⟩, by rw [h3, Heap.size_push]; exact Nat.lt_succ_of_lt hlt⟩
    rw [upd_ne (by rw [← hD]; exact Nat.ne_of_lt hlt)]
    exact (f2 b hb).1
  have st3 : tn 0 s3.heap := T.keep _ _ _ st2 fun b _ o e => by rw [h3]; exact Heap.get?_push_of_some _ e
  have I4 := block_start I3 ok hN f3
  have pg := hg s3 (upd H2 D (NObj X.w D [])) s3.heap.objs.size (cellsFrom (s3.heap.objs.size + 1) scope.names (cloFrom X.env.cells scope.names [])) fp
  have pt := ht s3 (upd H2 D (NObj X.w D [])) s3.heap.objs.size (cellsFrom (s3.heap.objs.size + 1) scope.names (cloFrom X.env.cells scope.names [])) fp
  have pk := hk s3 (upd H2 D (NObj X.w D [])) s3.heap.objs.size (cellsFrom (s3.heap.objs.size + 1) scope.names (cloFrom X.env.cells scope.names [])) fp
  have pe := he s3 (upd H2 D (NObj X.w D [])) s3.heap.objs.size (cellsFrom (s3.heap.objs.size + 1) scope.names (cloFrom X.env.cells scope.names [])) fp
  show codeAny _ _ (.compStart (.DictComp kx vx [⟨tg, iter, ifs, 0⟩] scope pos) 0 (.ref it) (.ref D) (compEnvC scope (cellsFrom (s3.heap.objs.size + 1) scope.names (cloFrom X.env.cells scope.names [])) s3.heap.objs.size X.env)) (compPost (model X.prog X.w) X.A X.xe use Qf (.ref D) s3.heap.objs.size) { s3 with heap := pushCells (s3.heap.push { cls := .type "dict", data := .dict #[] }) scope.names }
  have nfp : ∀ b ∈ fp, (upd H2 D (NObj X.w D [])) b = none := fun b hb => (f3 b hb).1.1
  generalize hce : compEnvC scope (cellsFrom (s3.heap.objs.size + 1) scope.names (cloFrom X.env.cells scope.names [])) s3.heap.objs.size X.env = ce at I4 pg pt pk pe ⊢
  have cL : ce.locals = s3.heap.objs.size := by subst hce; rfl
  generalize hH3 : upd H2 D (NObj X.w D []) = H3 at I3 I4 pg pt pk pe w0 nfp f3
  generalize hs4 : ({ s3 with heap := pushCells (s3.heap.push { cls := .type "dict", data := .dict #[] }) scope.names } : Shared) = s4 at I4 ⊢
  have st4 : tn 0 s4.heap := T.keep _ _ _ st3 fun b _ o e => by rw [← hs4]; exact pushCells_keeps _ _ _ _ (Heap.get?_push_of_some _ e)
  have stat : ∀ {σ' : L2.St} {H' : Hp} {s' : Shared}, Inv (X.blk s3 H3 scope ce fp) [] σ' H' s' → (∀ b ∈ fp, H' b = none) → ∀ b ∈ fp, FpOk (X.blk s3 H3 scope ce fp) [] H' b := fun {σ' H' s'} I' hn b hb =>
    ⟨hn b hb, (I'.ok.exf b hb).1, I'.ok.exfs b hb, .inl hb, fun x c e => (I'.ok.exf b hb).2 x c e, fun p hp => absurd (show p ∈ ([] : List (Addr × Obj)) ++ [] from hp) (by simp)⟩
  have loop : codeAny (model X.prog X.w) X.A (.compLoop (.DictComp kx vx [⟨tg, iter, ifs, 0⟩] scope pos) 0 (.ref it) (.ref D) ce) (compPost (model X.prog X.w) X.A X.xe use Qf (.ref D) s3.heap.objs.size) s4 := by
    refine compLoop_anyD (fun n s' => ∃ i H', Inv (X.blk s3 H3 scope ce fp) [] (wipe σ (own.map (·.2))) H' s' ∧ tn i s'.heap ∧ (∀ b ∈ fp, H' b = none) ∧ W i n H') ?_ m0 ⟨0, H3, I4, st4, nfp, w0⟩
    rintro n s5 ⟨i, H5, I5, st5, n5, w5⟩
    rcases turn i n H5 w5 with ⟨stop, qq⟩ | ⟨go, Nx, hNx, step⟩
    · have td := T.done (X.blk s3 H3 scope ce fp) rfl rfl rfl hc i [] s5 _ H5 (fun _ _ => False) I5 (stat I5 n5) st5 stop
      refine thnF td fun r s6 ⟨hr, I6⟩ => ?_
      subst hr
      have I7 : Inv X pins σ H5 s6 := I3.call' (ch := fp) I6.os I6.base I6.hok I6.bare fun b hb => ⟨(f3 b hb).1.2.2.2.1, (f3 b hb).1.2.1, (f3 b hb).1.2.2.2.2.1, (f3 b hb).1.2.2.2.2.2⟩
      have nC : H5 s3.heap.objs.size = none := by
        have z : H5 ce.locals = none := I6.free
        rw [cL] at z
        exact z
      obtain ⟨m, hn, _⟩ := I6.loc
      have hn : s6.heap.Ns ce.locals m := hn
      rw [cL] at hn
      exact hRR D s3.heap.objs.size s6 m H5 I7 qq hn (I3.fpOk (Nat.le_refl _) nC)
    · have ti := T.item (X.blk s3 H3 scope ce fp) rfl rfl rfl hc i [] s5 _ H5 (fun _ _ => False) I5 (stat I5 n5) st5 go
      refine thnF ti fun r s6 ⟨u, hr, h6⟩ => ?_
      subst hr
      refine thnF h6 fun _ s7 ⟨x, H7, I7, r7, y7, st7, n7⟩ => ?_
      have I7' := I7.pinned (stat I7 n7) (T.obj _ _ st7)
      refine thnF (pg.run _ s7 _ H7 x u _ I7' r7 (step x H7 y7)) fun _ s8 ⟨σ8, H8, I8, hw8, q8⟩ => ?_
      refine thnF (pt.run _ s8 σ8 H8 _ I8 q8) fun c s9 ⟨H9, I9, q9⟩ => ?_
      have fin : ∀ {s' : Shared} {H' : Hp}, Inv (X.blk s3 H3 scope ce fp) ([] ++ pinsAt fp s7.heap) σ8 H' s' → Nx H' → ∃ m, m < n ∧ ∃ i H', Inv (X.blk s3 H3 scope ce fp) [] (wipe σ (own.map (·.2))) H' s' ∧ tn i s'.heap ∧ (∀ b ∈ fp, H' b = none) ∧ W i m H' := fun {s' H'} I' nx => by
        obtain ⟨m', hm, w'⟩ := hNx H' nx
        have pin' : ∀ b ∈ fp, ∀ o, s7.heap.get? b = some o → s'.heap.get? b = some o ∧ H' b = none := fun b hb o e =>
          let z := I'.pin (b, o) (List.mem_append_right _ (List.mem_append_right _ (mem_pinsAt hb e)))
          ⟨z.1, z.2.1⟩
        have hl : (wipe σ (own.map (·.2))).length = σ8.length := by rw [← hw8, wipe_length]
        refine ⟨m', hm, i + 1, H', (I'.unpinned (pins := [])).weak hl (fun j v e => ?_), T.keep _ _ _ st7 fun b hb o e => (pin' b hb o e).1, fun b hb => ?_, w'⟩
        · rw [← hw8] at e
          exact (wipe_some e).1
        · obtain ⟨o, e, _⟩ := T.obj _ _ st7 b hb
          exact (pin' b hb o e).2
      cases c with
      | false =>
        simp only [Bool.false_eq_true, if_false] at q9 ⊢
        exact fin I9 q9
      | true =>
        simp only [if_true] at q9 ⊢
        refine thnF (pk.run _ s9 σ8 H9 _ I9 q9) fun z s10 ⟨yk, H10, I10, r10, q10⟩ => ?_
        refine thnF (pe.run _ s10 σ8 H10 _ I10 q10) fun z2 s11 ⟨yv, H11, I11, r11, xs, k, b, ek, g11, hk11, hz11, nx⟩ => ?_
        subst ek
        obtain rfl : z = Value.ref b := r10
        exact n_dictSet (X := X.blk s3 H3 scope ce fp) hu I11 g11 hz11 hk11 r11 fun s12 I12 => fin I12 nx
  exact codeAny_compStart_dict loop (T.self X.A 0 _ _ _ st4 loop)
theorem pe_dcN {kx vx tg iter : Expr} {ifs : List Expr} {scope : Scope} {own : List (Str × Nat)} {pos : Pos} {wi : TI} {g : TG} {tt : TT} {tk tv : TE} (hu : X.A.units + 9 < cLine) (hc : X.calm = true) (hN : X.N.Nodup) (hi : PI X tg iter wi) (ok : BlkOk X.N X.env.scope scope own)
    (hg : ∀ (s : Shared) (H : Hp) (C : Addr) (cl : List (Str × Addr)) (fp : List Addr), PG (X.blk s H scope (compEnvC scope cl C X.env) fp) tg g) (ht : ∀ (s : Shared) (H : Hp) (C : Addr) (cl : List (Str × Addr)) (fp : List Addr), PTs (X.blk s H scope (compEnvC scope cl C X.env) fp) ifs tt)
    (hk : ∀ (s : Shared) (H : Hp) (C : Addr) (cl : List (Str × Addr)) (fp : List Addr), PE (X.blk s H scope (compEnvC scope cl C X.env) fp) kx tk)
    (he : ∀ (s : Shared) (H : Hp) (C : Addr) (cl : List (Str × Addr)) (fp : List Addr), PE (X.blk s H scope (compEnvC scope cl C X.env) fp) vx tv) (hs : ∀ x, foldedSetIterable iter X.env x = pure x := by intro _; rfl) :
    PE X (.DictComp kx vx [⟨tg, iter, ifs, 0⟩] scope pos) (tDcN X.K X.w wi g tt tk tv (own.map (·.2))) := by
  refine ⟨fun pins s σ H Q I h => ?_⟩
  rw [arm_eval_DictComp]
  refine dcn_core hu hc hN I hi ok hg ht hk he hs h fun D C s' m H' I' q hn f => ⟨m, hn, fun h'' sb => ?_⟩
  obtain ⟨f0, f1, f2, f3, f4, f5⟩ := f
  exact ⟨.ref D, H', I'.turned (t' := s'.toks) (fun b o hb e => (sb.2 b hb).trans e) f0 f1 f3 f4 f5, rfl, q⟩
end
end DL
namespace DL
open PySem PySem.Spec L2
/-- a text by its codes -/
abbrev Tx := List Nat
abbrev tS (t : Tx) : Str := ⟨t.toArray⟩
def tx (s : String) : Tx := s.toList.map Char.toNat
theorem ofString_tx (s : String) : Str.ofString s = tS (tx s) := by
  unfold Str.ofString
  rw [cpsOfBytes_string]; rfl
theorem tS_inj {a b : Tx} (h : tS a = tS b) : a = b := by
  have := congrArg (fun s : Str => s.cps.toList) h
  simpa using this
theorem tS_of (x : Str) : x = tS x.cps.toList := by cases x; simp
theorem tS_append (a b : Tx) : tS a ++ tS b = tS (a ++ b) := by
  show (⟨a.toArray ++ b.toArray⟩ : Str) = _
  simp
theorem tS_length (a : Tx) : (tS a).length = a.length := by
  show a.toArray.size = _
  simp
/-- a dict's key -/
abbrev DK := Sum Int Tx
def kk : DK → Key
  | .inl i => .inl i
  | .inr t => .inr (tS t)
theorem kk_inj {a b : DK} (h : kk a = kk b) : a = b := by
  cases a <;> cases b <;> simp only [kk, Sum.inl.injEq, Sum.inr.injEq, reduceCtorEq] at h
  · rw [h]
  · rw [tS_inj h]
inductive D where
  | non | bl (b : Bool) | int (i : Int) | str (x : Tx) | tup (xs : List D) | lst (xs : List D) | scr (ns : List Int) | ref (a : Addr) | ty (n : String)
  /-- a dict that stays as it is -/
  | dct (ks : List DK) (ds : List D)
  deriving Inhabited
mutual
/-- v stands for d, its tuples and lists in the frozen heap F -/
def RelD (K : PySem.W.Frag) (F : Hp) : D → V → Prop
  | .non, v => v = .non
  | .bl b, v => v = .bl b
  | .int i, v => v = .int i
  | .str x, v => v = .str (tS x)
  | .tup ds, v => ∃ a vs, v = .ref a ∧ SqT K F a vs ∧ RelDs K F ds vs
  | .lst ds, v => ∃ a vs, v = .ref a ∧ F a = some (.lst vs) ∧ RelDs K F ds vs
  | .scr ns, v => ∃ a, v = .ref a ∧ SqL K F a (ns.map V.int)
  | .ref a, v => v = .ref a
  | .ty n, v => v = .ty n
  | .dct ks ds, v => ∃ a o vs, v = .ref a ∧ F a = some (.frz o (.dK ((ks.map kk).zip vs))) ∧ vs.length = ks.length ∧ RelDs K F ds vs
def RelDs (K : PySem.W.Frag) (F : Hp) : List D → List V → Prop
  | [], vs => vs = []
  | d :: ds, vs => ∃ v r, vs = v :: r ∧ RelD K F d v ∧ RelDs K F ds r
end
section
variable {K : PySem.W.Frag} {F F' : Hp}
theorem seqT {a : Addr} {xs : List V} (e : Same F F') (h : SqT K F a xs) : SqT K F' a xs := by
  rcases h with (h | ⟨o, h⟩) | h
  · exact .inl (.inl (e _ _ h))
  · exact .inl (.inr ⟨o, e _ _ h⟩)
  · exact .inr h
mutual
theorem RelD.mono (e : Same F F') : ∀ (d : D) (v : V), RelD K F d v → RelD K F' d v
  | .non, _, h => by unfold RelD at h ⊢; exact h
  | .bl _, _, h => by unfold RelD at h ⊢; exact h
  | .int _, _, h => by unfold RelD at h ⊢; exact h
  | .str _, _, h => by unfold RelD at h ⊢; exact h
  | .ref _, _, h => by unfold RelD at h ⊢; exact h
  | .ty _, _, h => by unfold RelD at h ⊢; exact h
  | .tup ds, _, h => by
    unfold RelD at h ⊢
    obtain ⟨a, vs, h1, h2, h3⟩ := h
    exact ⟨a, vs, h1, seqT e h2, RelDs.mono e ds vs h3⟩
  | .dct ks ds, _, h => by
    unfold RelD at h ⊢
    obtain ⟨a, o, vs, h1, h2, h4, h3⟩ := h
    exact ⟨a, o, vs, h1, e _ _ h2, h4, RelDs.mono e ds vs h3⟩
  | .lst ds, _, h => by
    unfold RelD at h ⊢
    obtain ⟨a, vs, h1, h2, h3⟩ := h
    exact ⟨a, vs, h1, e _ _ h2, RelDs.mono e ds vs h3⟩
  | .scr ns, _, h => by
    unfold RelD at h ⊢
    obtain ⟨a, h1, h2⟩ := h
    exact ⟨a, h1, e.seq h2⟩
theorem RelDs.mono (e : Same F F') : ∀ (ds : List D) (vs : List V), RelDs K F ds vs → RelDs K F' ds vs
  | [], _, h => by unfold RelDs at h ⊢; exact h
  | d :: ds, _, h => by
    unfold RelDs at h ⊢
    obtain ⟨v, r, h1, h2, h3⟩ := h
    exact ⟨v, r, h1, RelD.mono e d v h2, RelDs.mono e ds r h3⟩
end
theorem RelDs.nil : RelDs K F [] [] := by unfold RelDs; rfl
theorem RelDs.cons {d : D} {ds : List D} {v : V} {vs : List V} (h : RelD K F d v) (t : RelDs K F ds vs) : RelDs K F (d :: ds) (v :: vs) := by
  unfold RelDs; exact ⟨v, vs, rfl, h, t⟩
theorem RelDs.nil_inv {vs : List V} (h : RelDs K F [] vs) : vs = [] := by unfold RelDs at h; exact h
theorem RelDs.cons_inv {d : D} {ds : List D} {vs : List V} (h : RelDs K F (d :: ds) vs) : ∃ v r, vs = v :: r ∧ RelD K F d v ∧ RelDs K F ds r := by unfold RelDs at h; exact h
theorem RelDs.length : ∀ {ds : List D} {vs : List V}, RelDs K F ds vs → vs.length = ds.length
  | [], _, h => by rw [h.nil_inv]; rfl
  | d :: ds, _, h => by
    obtain ⟨v, r, rfl, _, h3⟩ := h.cons_inv
    simp [RelDs.length h3]
theorem RelDs.get : ∀ {ds : List D} {vs : List V} {i : Nat} {d : D}, RelDs K F ds vs → ds[i]? = some d → ∃ v, vs[i]? = some v ∧ RelD K F d v
  | [], _, i, d, _, h => by simp at h
  | d :: ds, _, 0, d', h, e => by
    obtain ⟨v, r, rfl, h2, _⟩ := h.cons_inv
    simp at e; subst e
    exact ⟨v, rfl, h2⟩
  | d :: ds, _, i + 1, d', h, e => by
    obtain ⟨v, r, rfl, _, h3⟩ := h.cons_inv
    obtain ⟨w, h4, h5⟩ := RelDs.get (i := i) h3 (by simpa using e)
    exact ⟨w, by simpa using h4, h5⟩
theorem RelDs.get' : ∀ {ds : List D} {vs : List V} {i : Nat} {v : V}, RelDs K F ds vs → vs[i]? = some v → ∃ d, ds[i]? = some d ∧ RelD K F d v
  | [], _, i, v, h, e => by rw [h.nil_inv] at e; simp at e
  | d :: ds, _, 0, v', h, e => by
    obtain ⟨v, r, rfl, h2, _⟩ := h.cons_inv
    simp at e; subst e
    exact ⟨d, rfl, h2⟩
  | d :: ds, _, i + 1, v', h, e => by
    obtain ⟨v, r, rfl, _, h3⟩ := h.cons_inv
    obtain ⟨w, h4, h5⟩ := RelDs.get' (i := i) h3 (by simpa using e)
    exact ⟨w, by simpa using h4, h5⟩
theorem RelDs.append : ∀ {ds es : List D} {vs ws : List V}, RelDs K F ds vs → RelDs K F es ws → RelDs K F (ds ++ es) (vs ++ ws)
  | [], _, _, _, h, g => by rw [h.nil_inv]; exact g
  | d :: ds, _, _, _, h, g => by
    obtain ⟨v, r, rfl, h2, h3⟩ := h.cons_inv
    exact .cons h2 (RelDs.append h3 g)
theorem RelDs.take : ∀ {ds : List D} {vs : List V} (n : Nat), RelDs K F ds vs → RelDs K F (ds.take n) (vs.take n)
  | _, _, 0, _ => .nil
  | [], _, n + 1, h => by rw [h.nil_inv]; exact .nil
  | d :: ds, _, n + 1, h => by
    obtain ⟨v, r, rfl, h2, h3⟩ := h.cons_inv
    exact .cons h2 (RelDs.take n h3)
theorem RelDs.drop : ∀ {ds : List D} {vs : List V} (n : Nat), RelDs K F ds vs → RelDs K F (ds.drop n) (vs.drop n)
  | _, _, 0, h => h
  | [], _, n + 1, h => by rw [h.nil_inv]; exact .nil
  | d :: ds, _, n + 1, h => by
    obtain ⟨v, r, rfl, h2, h3⟩ := h.cons_inv
    exact RelDs.drop n h3
theorem RelDs.set {d : D} {v : V} (hd : RelD K F d v) : ∀ {ds : List D} {vs : List V} (i : Nat), RelDs K F ds vs → RelDs K F (ds.set i d) (vs.set i v)
  | [], _, _, h => by rw [h.nil_inv]; exact .nil
  | d :: ds, _, 0, h => by
    obtain ⟨v, r, rfl, h2, h3⟩ := h.cons_inv
    exact .cons hd h3
  | d :: ds, _, i + 1, h => by
    obtain ⟨v, r, rfl, h2, h3⟩ := h.cons_inv
    exact .cons h2 (RelDs.set hd i h3)
theorem RelDs.ints : ∀ ns : List Int, RelDs K F (ns.map D.int) (ns.map V.int)
  | [] => .nil
  | n :: ns => .cons (by unfold RelD; rfl) (RelDs.ints ns)
theorem RelD.int_i (i : Int) : RelD K F (.int i) (.int i) := by unfold RelD; rfl
theorem RelD.bl_i (b : Bool) : RelD K F (.bl b) (.bl b) := by unfold RelD; rfl
theorem RelD.non_i : RelD K F .non .non := by unfold RelD; rfl
theorem RelD.str_i (x : Tx) : RelD K F (.str x) (.str (tS x)) := by unfold RelD; rfl
theorem RelD.ref_i (a : Addr) : RelD K F (.ref a) (.ref a) := by unfold RelD; rfl
theorem RelD.int_e {i : Int} {v : V} (h : RelD K F (.int i) v) : v = .int i := by unfold RelD at h; exact h
theorem RelD.bl_e {i : Bool} {v : V} (h : RelD K F (.bl i) v) : v = .bl i := by unfold RelD at h; exact h
theorem RelD.non_e {v : V} (h : RelD K F .non v) : v = .non := by unfold RelD at h; exact h
theorem RelD.str_e {i : Tx} {v : V} (h : RelD K F (.str i) v) : v = .str (tS i) := by unfold RelD at h; exact h
theorem RelD.ty_i (a : String) : RelD K F (.ty a) (.ty a) := by unfold RelD; rfl
theorem RelD.ty_e {a : String} {v : V} (h : RelD K F (.ty a) v) : v = .ty a := by unfold RelD at h; exact h
theorem RelD.ref_e {a : Addr} {v : V} (h : RelD K F (.ref a) v) : v = .ref a := by unfold RelD at h; exact h
theorem RelD.tup_e {ds : List D} {v : V} (h : RelD K F (.tup ds) v) : ∃ a vs, v = .ref a ∧ SqT K F a vs ∧ RelDs K F ds vs := by unfold RelD at h; exact h
theorem RelD.lst_e {ds : List D} {v : V} (h : RelD K F (.lst ds) v) : ∃ a vs, v = .ref a ∧ F a = some (.lst vs) ∧ RelDs K F ds vs := by unfold RelD at h; exact h
theorem RelD.scr_e {ns : List Int} {v : V} (h : RelD K F (.scr ns) v) : ∃ a, v = .ref a ∧ SqL K F a (ns.map V.int) := by unfold RelD at h; exact h
theorem RelD.dct_e {ks : List DK} {ds : List D} {v : V} (h : RelD K F (.dct ks ds) v) : ∃ a o vs, v = .ref a ∧ F a = some (.frz o (.dK ((ks.map kk).zip vs))) ∧ vs.length = ks.length ∧ RelDs K F ds vs := by unfold RelD at h; exact h
theorem RelD.dct_i {ks : List DK} {ds : List D} {a : Addr} {o : Obj} {vs : List V} (h : F a = some (.frz o (.dK ((ks.map kk).zip vs)))) (hl : vs.length = ks.length) (r : RelDs K F ds vs) : RelD K F (.dct ks ds) (.ref a) := by unfold RelD; exact ⟨a, o, vs, rfl, h, hl, r⟩
theorem RelD.tup_i {ds : List D} {a : Addr} {vs : List V} (h : SqT K F a vs) (r : RelDs K F ds vs) : RelD K F (.tup ds) (.ref a) := by unfold RelD; exact ⟨a, vs, rfl, h, r⟩
theorem RelD.lst_i {ds : List D} {a : Addr} {vs : List V} (h : F a = some (.lst vs)) (r : RelDs K F ds vs) : RelD K F (.lst ds) (.ref a) := by unfold RelD; exact ⟨a, vs, rfl, h, r⟩
theorem RelD.scr_i {ns : List Int} {a : Addr} (h : SqL K F a (ns.map V.int)) : RelD K F (.scr ns) (.ref a) := by unfold RelD; exact ⟨a, rfl, h⟩
end
def RelF {κ : Type} (K : PySem.W.Frag) (F : Hp) : List (κ × D) → List (κ × V) → Prop
  | [], ws => ws = []
  | (k, d) :: fs, ws => ∃ v r, ws = (k, v) :: r ∧ RelD K F d v ∧ RelF K F fs r
section
variable {κ : Type} {K : PySem.W.Frag} {F F' : Hp}
theorem RelF.mono (e : Same F F') : ∀ {fs : List (κ × D)} {ws : List (κ × V)}, RelF K F fs ws → RelF K F' fs ws
  | [], _, h => h
  | (k, d) :: fs, _, h => by
    obtain ⟨v, r, rfl, h2, h3⟩ := h
    exact ⟨v, r, rfl, RelD.mono e d v h2, RelF.mono e h3⟩
theorem RelF.length : ∀ {fs : List (κ × D)} {ws : List (κ × V)}, RelF K F fs ws → ws.length = fs.length
  | [], _, h => by rw [show _ = _ from h]; rfl
  | (k, d) :: fs, _, h => by
    obtain ⟨v, r, rfl, h2, h3⟩ := h
    simp [RelF.length h3]
theorem RelF.keys : ∀ {fs : List (κ × D)} {ws : List (κ × V)}, RelF K F fs ws → ws.map (·.1) = fs.map (·.1)
  | [], _, h => by rw [show _ = _ from h]; rfl
  | (k, d) :: fs, _, h => by
    obtain ⟨v, r, rfl, h2, h3⟩ := h
    simp [RelF.keys h3]
theorem RelF.lookup [BEq κ] {k : κ} {d : D} : ∀ {fs : List (κ × D)} {ws : List (κ × V)}, RelF K F fs ws → fs.lookup k = some d → ∃ v, ws.lookup k = some v ∧ RelD K F d v
  | [], _, h, e => by cases e
  | (k', d') :: fs, _, h, e => by
    obtain ⟨v, r, rfl, h2, h3⟩ := h
    unfold List.lookup at e ⊢
    cases q : (k == k') with
    | true =>
      rw [q] at e
      cases e
      exact ⟨v, rfl, h2⟩
    | false =>
      rw [q] at e
      exact RelF.lookup h3 e
theorem RelF.lookup_none [BEq κ] {k : κ} : ∀ {fs : List (κ × D)} {ws : List (κ × V)}, RelF K F fs ws → fs.lookup k = none → ws.lookup k = none
  | [], _, h, e => by rw [show _ = _ from h]; rfl
  | (k', d') :: fs, _, h, e => by
    obtain ⟨v, r, rfl, h2, h3⟩ := h
    unfold List.lookup at e ⊢
    cases q : (k == k') with
    | true => rw [q] at e; cases e
    | false =>
      rw [q] at e
      exact RelF.lookup_none h3 e
end
inductive DO where
  | lst (ds : List D)
  | dic (kvs : List (DK × D))
  | ins (C : Addr) (fs : List (Str × D))
  | dn (w : World) (a : Addr) (kvs : List (NestedKey × D × D))
abbrev Store := Addr → Option DO
def sup (S : Store) (a : Addr) (o : DO) : Store := fun b => if b = a then some o else S b
def sdel (S : Store) (a : Addr) : Store := fun b => if b = a then none else S b
theorem sup_same {S : Store} {a : Addr} {o : DO} : sup S a o a = some o := by unfold sup; rw [if_pos rfl]
theorem sup_ne {S : Store} {a b : Addr} {o : DO} (h : b ≠ a) : sup S a o b = S b := by unfold sup; rw [if_neg h]
theorem sup_sup {S : Store} {a : Addr} {o u : DO} : sup (sup S a o) a u = sup S a u := by funext b; unfold sup; split <;> rfl
theorem sdel_sup {S : Store} {a : Addr} {o : DO} (h : S a = none) : sdel (sup S a o) a = S := by
  funext b; unfold sdel sup
  by_cases e : b = a
  · rw [if_pos e, e, h]
  · rw [if_neg e, if_neg e]
theorem sup_id {S : Store} {a : Addr} {o : DO} (h : S a = some o) : sup S a o = S := by
  funext b; unfold sup
  by_cases e : b = a
  · rw [if_pos e, e, h]
  · rw [if_neg e]
theorem sup_comm {S : Store} {a b : Addr} {o u : DO} (h : a ≠ b) : sup (sup S a o) b u = sup (sup S b u) a o := by
  funext c; unfold sup
  by_cases e : c = b
  · rw [if_pos e, if_neg (by rw [e]; exact h.symm), if_pos e]
  · rw [if_neg e, if_neg e]
def Sub (S S' : Store) : Prop := ∀ a o, S a = some o → S' a = some o
theorem Sub.refl (S : Store) : Sub S S := fun _ _ h => h
theorem Sub.trans {A B C : Store} (h : Sub A B) (g : Sub B C) : Sub A C := fun a o e => g a o (h a o e)
theorem Sub.sup {S : Store} {a : Addr} {o : DO} (h : S a = none) : Sub S (sup S a o) := fun b u e => by
  rw [sup_ne]; exact e
  intro z; rw [z, h] at e; cases e
theorem Sub.sup2 {S S' : Store} {a : Addr} {o : DO} (g : Sub S S') (h : S a = none) : Sub S (DL.sup S' a o) := fun b u e => by
  rw [sup_ne]; exact g _ _ e
  intro z; rw [z, h] at e; cases e
mutual
theorem NK.mono {K : PySem.W.Frag} {F F' : Hp} (e : Same F F') : ∀ (k : NestedKey) (v : V), NK K F k v → NK K F' k v
  | .none, _, h => by cases h; exact .none
  | .num i, _, h => by
    cases h with
    | bool q => exact .bool q
    | int _ => exact .int _
  | .text x, _, h => by cases h; exact .text _
  | .tup ks, _, h => by
    cases h with
    | tup h1 h2 => exact .tup (seqT e h1) (NKs.mono e ks _ h2)
theorem NKs.mono {K : PySem.W.Frag} {F F' : Hp} (e : Same F F') : ∀ (ks : List NestedKey) (vs : List V), NKs K F ks vs → NKs K F' ks vs
  | [], _, h => by cases h; exact .nil
  | k :: ks, _, h => by
    cases h with
    | cons h1 h2 => exact .cons (NK.mono e k _ h1) (NKs.mono e ks _ h2)
end
theorem KeyN.mono {K : PySem.W.Frag} {F F' : Hp} (e : Same F F') {k : NestedKey} {v : V} (h : KeyN K F k v) : KeyN K F' k v := ⟨NK.mono e k v h.1, h.2⟩
def RRN (K : PySem.W.Frag) (F : Hp) (p : NestedKey × D × D) (q : NestedKey × Addr × V) : Prop := p.1 = q.1 ∧ KeyN K F p.1 (.ref q.2.1) ∧ RelD K F p.2.1 (.ref q.2.1) ∧ RelD K F p.2.2 q.2.2
abbrev RelN (K : PySem.W.Frag) (F : Hp) : List (NestedKey × D × D) → XN → Prop := Paired (RRN K F)
theorem RelN.mono {K : PySem.W.Frag} {F F' : Hp} (e : Same F F') {kvs : List (NestedKey × D × D)} {xs : XN} (h : RelN K F kvs xs) : RelN K F' kvs xs := Paired.mapP h fun _ _ z => ⟨z.1, z.2.1.mono e, RelD.mono e _ _ z.2.2.1, RelD.mono e _ _ z.2.2.2⟩
def RelO (K : PySem.W.Frag) (F : Hp) : DO → HO → Prop
  | .lst ds, o => ∃ vs, o = .lst vs ∧ RelDs K F ds vs
  | .dic kvs, o => ∃ ws, o = .dK ws ∧ RelF K F (kvs.map fun p => (kk p.1, p.2)) ws
  | .ins C fs, o => ∃ dx ws, o = .ins C dx ws ∧ RelF K F fs ws
  | .dn w a kvs, o => ∃ xs, o = NObj w a xs ∧ RelN K F kvs xs
theorem RelO.mono {K : PySem.W.Frag} {F F' : Hp} (e : Same F F') : ∀ {o : DO} {h : HO}, RelO K F o h → RelO K F' o h
  | .lst ds, _, h => by
    obtain ⟨vs, h1, h2⟩ := h
    exact ⟨vs, h1, RelDs.mono e ds vs h2⟩
  | .dic kvs, _, h => by
    obtain ⟨ws, h1, h2⟩ := h
    exact ⟨ws, h1, h2.mono e⟩
  | .ins C fs, _, h => by
    obtain ⟨dx, ws, h1, h2⟩ := h
    exact ⟨dx, ws, h1, h2.mono e⟩
  | .dn w a kvs, _, h => by
    obtain ⟨xs, h1, h2⟩ := h
    exact ⟨xs, h1, RelN.mono e h2⟩
/-- the abstract heap H holds the frozen F and the store S, apart -/
structure SR (K : PySem.W.Frag) (F : Hp) (S : Store) (H : Hp) : Prop where
  fro : Same F H
  obj : ∀ a o, S a = some o → F a = none ∧ ∃ ho, H a = some ho ∧ RelO K F o ho
/-- how F, S, H go on -/
structure Ext (F : Hp) (S : Store) (H : Hp) (F' : Hp) (S' : Store) (H' : Hp) : Prop where
  same : Same F F'
  off : ∀ a o, H a = some o → S a = none → H' a = some o
  newF : ∀ a, F' a ≠ none → F a = none → S a ≠ none ∨ H a = none
  newS : ∀ a, S' a ≠ none → S a ≠ none ∨ H a = none
theorem Ext.refl (F : Hp) (S : Store) (H : Hp) : Ext F S H F S H := ⟨Same.refl F, fun _ _ h _ => h, fun _ h g => absurd g h, fun _ h => .inl h⟩
theorem Ext.trans {F F' F'' : Hp} {S S' S'' : Store} {H H' H'' : Hp} (x : Ext F S H F' S' H') (y : Ext F' S' H' F'' S'' H'') : Ext F S H F'' S'' H'' where
  same := x.same.trans y.same
  off := fun a o h hs => by
    refine y.off a o (x.off a o h hs) ?_
    cases q : S' a with
    | none => rfl
    | some u =>
      rcases x.newS a (by rw [q]; simp) with z | z
      · exact absurd hs z
      · rw [h] at z; cases z
  newF := fun a h g => by
    cases q : F' a with
    | some u => exact x.newF a (by rw [q]; simp) g
    | none =>
      rcases y.newF a h q with z | z
      · exact x.newS a z
      · cases hs : S a with
        | some u => exact .inl (by simp)
        | none =>
          cases hh : H a with
          | none => exact .inr rfl
          | some o => rw [x.off a o hh hs] at z; cases z
  newS := fun a h => by
    rcases y.newS a h with z | z
    · exact x.newS a z
    · cases hs : S a with
      | some u => exact .inl (by simp)
      | none =>
        cases hh : H a with
        | none => exact .inr rfl
        | some o => rw [x.off a o hh hs] at z; cases z
/-- an entry: of a def -/
structure Ent where
  F : Hp
  S : Store
  H : Hp
section
variable {K : PySem.W.Frag} {F : Hp} {S : Store} {H : Hp} {p a : Addr} {ho : HO} {o : DO}
theorem SR.fnone (h : SR K F S H) (e : H p = none) : F p = none := by
  cases q : F p with
  | none => rfl
  | some u => have := h.fro p u q; rw [e] at this; cases this
theorem SR.snone (h : SR K F S H) (e : H p = none) : S p = none := by
  cases q : S p with
  | none => rfl
  | some u => obtain ⟨_, ho, h1, _⟩ := h.obj p u q; rw [e] at h1; cases h1
theorem SR.same_frz (h : SR K F S H) (e : H p = none) : Same F (upd F p ho) := fun b u q => by
  rw [upd_ne]; exact q
  intro z; rw [z, h.fnone e] at q; cases q
/-- a new frozen object -/
theorem SR.frz (h : SR K F S H) (e : H p = none) : SR K (upd F p ho) S (upd H p ho) where
  fro := fun b u q => by
    by_cases z : b = p
    · subst z; rw [upd_same] at q ⊢; exact q
    · rw [upd_ne z] at q ⊢; exact h.fro b u q
  obj := fun b u q => by
    obtain ⟨h1, ho', h2, h3⟩ := h.obj b u q
    have z : b ≠ p := by intro z; rw [z, e] at h2; cases h2
    rw [upd_ne z, upd_ne z]
    exact ⟨h1, ho', h2, h3.mono (h.same_frz e)⟩
theorem SR.ext_frz (h : SR K F S H) (e : H p = none) : Ext F S H (upd F p ho) S (upd H p ho) where
  same := h.same_frz e
  off := fun b u q _ => by
    rw [upd_ne]; exact q
    intro z; rw [z, e] at q; cases q
  newF := fun b q g => by
    by_cases z : b = p
    · subst z; exact .inr e
    · rw [upd_ne z] at q; exact absurd g q
  newS := fun b q => .inl q
/-- a new object of the store -/
theorem SR.box (h : SR K F S H) (e : H p = none) (r : RelO K F o ho) : SR K F (sup S p o) (upd H p ho) where
  fro := fun b u q => by
    rw [upd_ne]; exact h.fro b u q
    intro z; rw [z, h.fnone e] at q; cases q
  obj := fun b u q => by
    by_cases z : b = p
    · subst z; rw [sup_same] at q; cases q
      exact ⟨h.fnone e, ho, upd_same, r⟩
    · rw [sup_ne z] at q; rw [upd_ne z]; exact h.obj b u q
theorem SR.ext_box (h : SR K F S H) (e : H p = none) : Ext F S H F (sup S p o) (upd H p ho) where
  same := Same.refl F
  off := fun b u q _ => by
    rw [upd_ne]; exact q
    intro z; rw [z, e] at q; cases q
  newF := fun b q g => absurd g q
  newS := fun b q => by
    by_cases z : b = p
    · subst z; exact .inr e
    · rw [sup_ne z] at q; exact .inl q
/-- an object of the store is written -/
theorem SR.write {o0 : DO} (h : SR K F S H) (e : S a = some o0) (r : RelO K F o ho) : SR K F (sup S a o) (upd H a ho) where
  fro := fun b u q => by
    rw [upd_ne]; exact h.fro b u q
    intro z; rw [z, (h.obj a o0 e).1] at q; cases q
  obj := fun b u q => by
    by_cases z : b = a
    · subst z; rw [sup_same] at q; cases q
      exact ⟨(h.obj b o0 e).1, ho, upd_same, r⟩
    · rw [sup_ne z] at q; rw [upd_ne z]; exact h.obj b u q
theorem SR.ext_write {o0 : DO} (h : SR K F S H) (e : S a = some o0) : Ext F S H F (sup S a o) (upd H a ho) where
  same := Same.refl F
  off := fun b u q n => by
    rw [upd_ne]; exact q
    intro z; rw [z, e] at n; cases n
  newF := fun b q g => absurd g q
  newS := fun b q => by
    by_cases z : b = a
    · subst z; exact .inl (by rw [e]; simp)
    · rw [sup_ne z] at q; exact .inl q
/-- a list of the store is frozen -/
theorem SR.freeze {ds : List D} (h : SR K F S H) (e : S a = some (.lst ds)) : ∃ F', SR K F' (sdel S a) H ∧ Ext F S H F' (sdel S a) H ∧ RelD K F' (.lst ds) (.ref a) := by
  obtain ⟨h1, ho, h2, vs, rfl, h3⟩ := h.obj a _ e
  have sm : Same F (upd F a (.lst vs)) := fun b u q => by
    rw [upd_ne]; exact q
    intro z; rw [z, h1] at q; cases q
  refine ⟨upd F a (.lst vs), ⟨fun b u q => ?_, fun b u q => ?_⟩, ⟨sm, fun b u q _ => q, fun b q g => ?_, fun b q => ?_⟩, RelD.lst_i upd_same (RelDs.mono sm _ _ h3)⟩
  · by_cases z : b = a
    · subst z; rw [upd_same] at q; cases q; exact h2
    · rw [upd_ne z] at q; exact h.fro b u q
  · unfold sdel at q
    by_cases z : b = a
    · rw [if_pos z] at q; cases q
    · rw [if_neg z] at q
      obtain ⟨k1, ho', k2, k3⟩ := h.obj b u q
      rw [upd_ne z]
      exact ⟨k1, ho', k2, k3.mono sm⟩
  · by_cases z : b = a
    · subst z; exact .inl (by rw [e]; simp)
    · rw [upd_ne z] at q; exact absurd g q
  · unfold sdel at q
    by_cases z : b = a
    · rw [if_pos z] at q; exact absurd rfl q
    · rw [if_neg z] at q; exact .inl q
theorem Ext.laid {o1 : HO} (e : H p = none) : Ext F S H F S (upd H p o1) := by
  refine ⟨Same.refl F, fun b u q _ => ?_, fun _ q g => absurd g q, fun _ q => .inl q⟩
  rw [upd_ne]; exact q
  intro z; rw [z, e] at q; cases q
theorem SR.sub {S' : Store} (h : SR K F S H) (g : Sub S' S) : SR K F S' H := ⟨h.fro, fun a o e => h.obj a o (g a o e)⟩
theorem SR.ext_sub {S' : Store} (g : Sub S' S) : Ext F S H F S' H := ⟨Same.refl F, fun _ _ h _ => h, fun _ q g => absurd g q, fun b q => .inl (by
  cases e : S' b with
  | none => exact absurd e q
  | some u => rw [g b u e]; simp)⟩
theorem SR.lst (h : SR K F S H) {ds : List D} (e : S a = some (.lst ds)) : ∃ vs, H a = some (.lst vs) ∧ RelDs K F ds vs := by
  obtain ⟨_, ho, h2, vs, rfl, h3⟩ := h.obj a _ e
  exact ⟨vs, h2, h3⟩
theorem SR.dic (h : SR K F S H) {kvs : List (DK × D)} (e : S a = some (.dic kvs)) : ∃ ws, H a = some (.dK ws) ∧ RelF K F (kvs.map fun p => (kk p.1, p.2)) ws := by
  obtain ⟨_, ho, h2, vs, rfl, h3⟩ := h.obj a _ e
  exact ⟨vs, h2, h3⟩
theorem SR.dn (h : SR K F S H) {w : World} {b : Addr} {kvs : List (NestedKey × D × D)} (e : S a = some (.dn w b kvs)) : ∃ xs, H a = some (NObj w b xs) ∧ RelN K F kvs xs := by
  obtain ⟨_, ho, h2, xs, rfl, h3⟩ := h.obj a _ e
  exact ⟨xs, h2, h3⟩
theorem SR.ins (h : SR K F S H) {C : Addr} {fs : List (Str × D)} (e : S a = some (.ins C fs)) : ∃ dx ws, H a = some (.ins C dx ws) ∧ RelF K F fs ws := by
  obtain ⟨_, ho, h2, dx, vs, rfl, h3⟩ := h.obj a _ e
  exact ⟨dx, vs, h2, h3⟩
end
end DL
namespace DL
open PySem PySem.Spec L2
abbrev Rho := List (Option D)
def RelE (K : PySem.W.Frag) (F : Hp) (ρ : Rho) (σ : St) : Prop := ρ.length = σ.length ∧ ∀ (i : Nat) (d : D), ρ[i]? = some (some d) → ∃ v, σ[i]? = some (some v) ∧ RelD K F d v
abbrev TD := Rho → Store → (D → Store → Prop) → Prop
abbrev TDs := Rho → Store → (List D → Store → Prop) → Prop
abbrev TDT := Rho → Store → (Bool → Store → Prop) → Prop
structure DEnds where
  nx : Rho → Store → Prop
  rt : D → Store → Prop
  bk : Rho → Store → Prop := fun _ _ => False
  ct : Rho → Store → Prop := fun _ _ => False
abbrev TDS := DEnds → Rho → Store → Prop
/-- where one stands -/
structure At (K : PySem.W.Frag) (F0 : Ent) (F : Hp) (S : Store) (H : Hp) (ρ : Rho) (σ : St) : Prop where
  f0 : Ext F0.F F0.S F0.H F S H
  sr : SR K F S H
  env : RelE K F ρ σ
section
variable {K : PySem.W.Frag} {F0 : Ent} {F F' F'' : Hp} {S S' S'' : Store} {H H' H'' : Hp} {ρ : Rho} {σ : St}
theorem RelE.mono (e : Same F F') (h : RelE K F ρ σ) : RelE K F' ρ σ := ⟨h.1, fun i d q => by
  obtain ⟨v, h1, h2⟩ := h.2 i d q
  exact ⟨v, h1, RelD.mono e d v h2⟩⟩
theorem At.next (a : At K F0 F S H ρ σ) (x : Ext F S H F' S' H') (r : SR K F' S' H') : At K F0 F' S' H' ρ σ := ⟨a.f0.trans x, r, a.env.mono x.same⟩
theorem RelE.set {d : D} {v : V} (h : RelE K F ρ σ) (r : RelD K F d v) (i : Nat) : RelE K F (ρ.set i (some d)) (σ.set i (some v)) := by
  refine ⟨by simpa using h.1, fun j d' q => ?_⟩
  by_cases e : i = j
  · subst e
    have hi : i < ρ.length := by
      rcases Nat.lt_or_ge i ρ.length with z | z
      · exact z
      · rw [List.getElem?_eq_none (by simpa using z)] at q; cases q
    rw [List.getElem?_set_self hi] at q
    have e2 := Option.some.inj (Option.some.inj q)
    subst e2
    exact ⟨v, List.getElem?_set_self (by rw [← h.1]; exact hi), r⟩
  · rw [List.getElem?_set_ne e] at q
    rw [List.getElem?_set_ne e]
    exact h.2 j d' q
theorem RelE.unset (h : RelE K F ρ σ) (i : Nat) (o : Option V) : RelE K F (ρ.set i none) (σ.set i o) := by
  refine ⟨by simpa using h.1, fun j d' q => ?_⟩
  by_cases e : i = j
  · subst e
    rw [List.getElem?_set] at q
    simp at q
  · rw [List.getElem?_set_ne e] at q
    rw [List.getElem?_set_ne e]
    exact h.2 j d' q
end
/-- what follows, told over data -/
def Post (K : PySem.W.Frag) (F : Hp) (S : Store) (H : Hp) (Q' : D → Store → Prop) (Q : VK) : Prop :=
  ∀ v H' F' S' d, Ext F S H F' S' H' → SR K F' S' H' → RelD K F' d v → Q' d S' → Q v H'
def EL (K : PySem.W.Frag) (F0 : Ent) (t : TD) : TE := fun σ H Q => ∃ F S ρ Q', At K F0 F S H ρ σ ∧ t ρ S Q' ∧ Post K F S H Q' Q
def TL (K : PySem.W.Frag) (F0 : Ent) (t : TDT) : TT := fun σ H Q => ∃ F S ρ Q', At K F0 F S H ρ σ ∧ t ρ S Q' ∧ ∀ b H' F' S', Ext F S H F' S' H' → SR K F' S' H' → Q' b S' → Q b H'
def AL (K : PySem.W.Frag) (F0 : Ent) (t : TDs) : TA := fun σ H Q => ∃ F S ρ Q', At K F0 F S H ρ σ ∧ t ρ S Q' ∧ ∀ vs H' F' S' ds, Ext F S H F' S' H' → SR K F' S' H' → RelDs K F' ds vs → Q' ds S' → Q vs H'
def DE (X : Cx) (F0 : Ent) (e : Expr) (t : TD) : Prop := PE X e (EL X.K F0 t)
def DT (X : Cx) (F0 : Ent) (e : Expr) (t : TDT) : Prop := PT X e (TL X.K F0 t)
def DW (X : Cx) (F0 : Ent) (e : Expr) (t : TDT) : Prop := PW X e (TL X.K F0 t)
def DA (X : Cx) (F0 : Ent) (es : List Expr) (t : TDs) : Prop := PA X es (AL X.K F0 t)
theorem PE.weak {X : Cx} {e : Expr} {t t' : TE} (h : PE X e t) (w : ∀ σ H Q, t' σ H Q → t σ H Q) : PE X e t' := ⟨fun pins s σ H Q I q => h.run pins s σ H Q I (w _ _ _ q)⟩
theorem PT.weak {X : Cx} {e : Expr} {t t' : TT} (h : PT X e t) (w : ∀ σ H Q, t' σ H Q → t σ H Q) : PT X e t' := ⟨fun pins s σ H Q I q => h.run pins s σ H Q I (w _ _ _ q)⟩
theorem PW.weak {X : Cx} {e : Expr} {t t' : TT} (h : PW X e t) (w : ∀ σ H Q, t' σ H Q → t σ H Q) : PW X e t' := ⟨fun wh pins s σ H Q I q => h.run wh pins s σ H Q I (w _ _ _ q)⟩
theorem PA.weak {X : Cx} {e : List Expr} {t t' : TA} (h : PA X e t) (w : ∀ σ H Q, t' σ H Q → t σ H Q) : PA X e t' := ⟨fun p pins s σ H Q I q => h.run p pins s σ H Q I (w _ _ _ q)⟩
theorem PS.weak {X : Cx} {e : Stmt} {t t' : TS} (h : PS X e t) (w : ∀ D σ H, t' D σ H → t D σ H) : PS X e t' := ⟨fun pins s σ H D I q => h.run pins s σ H D I (w _ _ _ q)⟩
theorem PSs.weak {X : Cx} {e : List Stmt} {t t' : TS} (h : PSs X e t) (w : ∀ D σ H, t' D σ H → t D σ H) : PSs X e t' := ⟨fun pins s σ H D I q => h.run pins s σ H D I (w _ _ _ q)⟩
section
variable {K : PySem.W.Frag} {F0 : Ent} {F : Hp} {S : Store} {H : Hp} {ρ : Rho} {σ : St} {Q : VK} {Q' : D → Store → Prop} {t : TD}
/-- run a part, go on from where it ends -/
theorem EL.go {R : VK} {Q1 : D → Store → Prop} (a : At K F0 F S H ρ σ) (h : t ρ S Q1) (n : ∀ v H1 F1 S1 d, Ext F S H F1 S1 H1 → At K F0 F1 S1 H1 ρ σ → RelD K F1 d v → Q1 d S1 → R v H1) : EL K F0 t σ H R :=
  ⟨F, S, ρ, Q1, a, h, fun v H1 F1 S1 d x r rd q => n v H1 F1 S1 d x (a.next x r) rd q⟩
theorem TL.go {t : TDT} {R : Bool → Hp → Prop} {Q1 : Bool → Store → Prop} (a : At K F0 F S H ρ σ) (h : t ρ S Q1) (n : ∀ b H1 F1 S1, Ext F S H F1 S1 H1 → At K F0 F1 S1 H1 ρ σ → Q1 b S1 → R b H1) : TL K F0 t σ H R :=
  ⟨F, S, ρ, Q1, a, h, fun v H1 F1 S1 x r q => n v H1 F1 S1 x (a.next x r) q⟩
theorem AL.go {t : TDs} {R : List V → Hp → Prop} {Q1 : List D → Store → Prop} (a : At K F0 F S H ρ σ) (h : t ρ S Q1) (n : ∀ v H1 F1 S1 d, Ext F S H F1 S1 H1 → At K F0 F1 S1 H1 ρ σ → RelDs K F1 d v → Q1 d S1 → R v H1) : AL K F0 t σ H R :=
  ⟨F, S, ρ, Q1, a, h, fun v H1 F1 S1 d x r rd q => n v H1 F1 S1 d x (a.next x r) rd q⟩
theorem Post.of (p : Post K F S H Q' Q) {F1 : Hp} {S1 : Store} {H1 : Hp} (x : Ext F S H F1 S1 H1) {v : V} {d : D} (r : SR K F1 S1 H1) (rd : RelD K F1 d v) (q : Q' d S1) : Q v H1 := p v H1 F1 S1 d x r rd q
theorem Post.ext (p : Post K F S H Q' Q) {F1 : Hp} {S1 : Store} {H1 : Hp} (x : Ext F S H F1 S1 H1) : Post K F1 S1 H1 Q' Q := fun v H' F' S' d y r rd q => p v H' F' S' d (x.trans y) r rd q
end
section
variable {X : Cx} {F0 : Ent} {e a b c : Expr} {es : List Expr} {t ta tb : TD} {pos : Pos}
def tdV (i : Nat) : TD := fun ρ S Q => ∃ d, ρ[i]? = some (some d) ∧ Q d S
def tdC (d : D) : TD := fun _ S Q => Q d S
theorem de_of {x : Str} {i : Nat} (h : PE X (.Name x pos) (tVar i)) : DE X F0 (.Name x pos) (tdV i) := PE.weak h fun σ H Q ⟨F, S, ρ, Q', a, ⟨d, e, q⟩, p⟩ => by
  obtain ⟨v, h1, h2⟩ := a.env.2 i d e
  exact ⟨v, h1, p.of (Ext.refl _ _ _) a.sr h2 q⟩
theorem dv (i : Nat) {x : Str} {pos : Pos} (hN : X.N[i]? = some x := by rfl) (hv : Vis X.env.scope x := by first | exact Or.inl rfl | exact Or.inr (Or.inl rfl) | exact Or.inr (Or.inr rfl)) (hd : (x == ("__debug__" : Str)) = false := by decide)
    (hcd : (x == ("__classdict__" : Str)) = false := by decide) : DE X F0 (.Name x pos) (tdV i) := de_of (pe_var hN hv hd hcd)
/-- a list of the store, read for the last time: from here on it is data -/
def tdZ (i : Nat) : TD := fun ρ S Q => ∃ a ds, ρ[i]? = some (some (.ref a)) ∧ S a = some (.lst ds) ∧ Q (.lst ds) (sdel S a)
theorem dz (i : Nat) {x : Str} {pos : Pos} (hN : X.N[i]? = some x := by rfl) (hv : Vis X.env.scope x := by first | exact Or.inl rfl | exact Or.inr (Or.inl rfl) | exact Or.inr (Or.inr rfl)) (hd : (x == ("__debug__" : Str)) = false := by decide)
    (hcd : (x == ("__classdict__" : Str)) = false := by decide) : DE X F0 (.Name x pos) (tdZ i) := PE.weak (pe_var (i := i) hN hv hd hcd) fun σ H Q ⟨F, S, ρ, Q', a, ⟨p, ds, e, es, q⟩, k⟩ => by
  obtain ⟨v, h1, h2⟩ := a.env.2 i _ e
  obtain rfl := h2.ref_e
  obtain ⟨F', r, x, rd⟩ := a.sr.freeze es
  exact ⟨_, h1, k.of x r rd q⟩
theorem PE.const {v : V} {d : D} (h : PE X e (tC v)) (r : ∀ F, RelD X.K F d v) : DE X F0 e (tdC d) := PE.weak h fun σ H Q ⟨F, S, ρ, Q', a, q, p⟩ => p.of (Ext.refl _ _ _) a.sr (r F) q
theorem de_int {i j} : DE X F0 (.Constant (.int i) j pos) (tdC (.int i)) := PE.const pe_int fun _ => .int_i _
theorem de_bl {i j} : DE X F0 (.Constant (.bool i) j pos) (tdC (.bl i)) := PE.const pe_bl fun _ => .bl_i _
theorem de_non {j} : DE X F0 (.Constant .none j pos) (tdC .non) := PE.const pe_non fun _ => .non_i
theorem de_str {x j} {t : Tx} (h : x = tS t := by first | exact ofString_tx _ | rfl) : DE X F0 (.Constant (.str x) j pos) (tdC (.str t)) := by
  subst h
  exact PE.const pe_str fun _ => .str_i _
/-- a built-in class as a value -/
theorem de_ty {x : Str} {n : String} (hg : Gl X x) (hm : X.mg x = none) (hv : bootBuiltins x = some (.type n)) (hn : x ≠ "__name__" := by decide) (hd : (x == ("__debug__" : Str)) = false := by decide) : DE X F0 (.Name x pos) (tdC (.ty n)) :=
  PE.const (pe_bltn (v := .ty n) hg hm hv rfl hn hd) fun _ => .ty_i _
theorem de_glob {x : Str} {v : V} {u : Value} {d : D} (hg : Gl X x) (hm : X.mg x = some u) (r : RelV v u) (rd : ∀ F, RelD X.K F d v) (hd : (x == ("__debug__" : Str)) = false := by decide) : DE X F0 (.Name x pos) (tdC d) := PE.const (pe_glob hg hm r hd) rd
abbrev DOp := Store → D → D → (D → Store → Prop) → Prop
def OL (K : PySem.W.Frag) (g : DOp) : R2 := fun x y H Q => ∃ F S dx dy Q', SR K F S H ∧ RelD K F dx x ∧ RelD K F dy y ∧ g S dx dy Q' ∧ Post K F S H Q' Q
def tdOp (g : DOp) (ta tb : TD) : TD := fun ρ S Q => ta ρ S fun x S1 => tb ρ S1 fun y S2 => g S2 x y Q
theorem op_go {g : DOp} {σ : St} {H : Hp} {Q : VK} (h : EL X.K F0 (tdOp g ta tb) σ H Q) : tOp (OL X.K g) (EL X.K F0 ta) (EL X.K F0 tb) σ H Q := by
  obtain ⟨F, S, ρ, Q', a, h, p⟩ := h
  refine EL.go a h fun v1 H1 F1 S1 d1 x1 a1 r1 q1 => ?_
  refine EL.go a1 q1 fun v2 H2 F2 S2 d2 x2 a2 r2 q2 => ?_
  exact ⟨F2, S2, d1, d2, Q', a2.sr, RelD.mono x2.same _ _ r1, r2, q2, p.ext (x1.trans x2)⟩
theorem de_op {op : Operator} {g : DOp} (ho : OpR X (binaryOp op) (OL X.K g)) (ha : DE X F0 a ta) (hb : DE X F0 b tb) : DE X F0 (.BinOp a op b pos) (tdOp g ta tb) := PE.weak (pe_op ho ha hb) fun _ _ _ h => op_go h
theorem de_cmp {op : CmpOp} {g : DOp} (ho : OpR X (compareOp op) (OL X.K g)) (ha : DE X F0 a ta) (hb : DE X F0 b tb) (hm : behindInMarks op b = false) : DE X F0 (.Compare a [op] [b] pos) (tdOp g ta tb) :=
  PE.weak (pe_cmpR ho ha hb hm) fun _ _ _ h => op_go h
/-- a value as a test -/
def tdB (t : TD) : TDT := fun ρ S Q => t ρ S fun d S' => ∃ k, d = .bl k ∧ Q k S'
theorem dt_cmp {op : CmpOp} {g : DOp} (ho : OpR X (compareOp op) (OL X.K g)) (ha : DE X F0 a ta) (hb : DE X F0 b tb) (hm : behindInMarks op b = false) : DT X F0 (.Compare a [op] [b] pos) (tdB (tdOp g ta tb)) :=
  PT.weak (pt_cmpR ho ha hb hm) fun σ H Q ⟨F, S, ρ, Q', a, h, p⟩ => op_go ⟨F, S, ρ, _, a, h, fun v H' F' S' d x r rd q => by
    obtain ⟨k, rfl, q⟩ := q
    exact ⟨k, rd.bl_e, p k H' F' S' x r q⟩⟩
theorem dt_val (h : DE X F0 e t) (he : ∀ whole, isTrue e X.env whole = (do let v ← whole; standAt e.pos; holding [v] (truthy v)) := by intro _; rfl) : DT X F0 e (tdB t) :=
  PT.weak (pt_val h he) fun σ H Q ⟨F, S, ρ, Q', a, h, p⟩ => ⟨F, S, ρ, _, a, h, fun v H' F' S' d x r rd q => by
    obtain ⟨k, rfl, q⟩ := q
    exact ⟨k, rd.bl_e, p k H' F' S' x r q⟩⟩
variable {A B : TDT} {rest : List Expr}
def tdAnd (t u : TDT) : TDT := fun ρ S Q => t ρ S fun c S1 => if c = true then u ρ S1 Q else Q false S1
def tdOr (t u : TDT) : TDT := fun ρ S Q => t ρ S fun c S1 => if c = true then Q true S1 else u ρ S1 Q
def tdNot (t : TDT) : TDT := fun ρ S Q => t ρ S fun c S1 => Q (!c) S1
theorem dw_and1 (ha : DT X F0 a A) : DW X F0 (.BoolOp .And [a] pos) A := pw_and1 ha
theorem dw_or1 (ha : DT X F0 a A) : DW X F0 (.BoolOp .Or [a] pos) A := pw_or1 ha
theorem DW.pt (h : DW X F0 e A) : DT X F0 e A := PW.pt h
theorem dw_and (ha : DT X F0 a A) (hb : DW X F0 (.BoolOp .And (b :: rest) pos) B) : DW X F0 (.BoolOp .And (a :: b :: rest) pos) (tdAnd A B) :=
  PW.weak (pw_and ha hb) fun σ H Q ⟨F, S, ρ, Q', at0, h, p⟩ => by
    refine TL.go at0 h fun c H1 F1 S1 x1 a1 q1 => ?_
    cases c with
    | true => exact iteT (TL.go a1 q1 fun c H2 F2 S2 x2 a2 q2 => p c H2 F2 S2 (x1.trans x2) a2.sr q2)
    | false => exact iteF (p false H1 F1 S1 x1 a1.sr q1)
theorem dw_or (ha : DT X F0 a A) (hb : DW X F0 (.BoolOp .Or (b :: rest) pos) B) : DW X F0 (.BoolOp .Or (a :: b :: rest) pos) (tdOr A B) :=
  PW.weak (pw_or ha hb) fun σ H Q ⟨F, S, ρ, Q', at0, h, p⟩ => by
    refine TL.go at0 h fun c H1 F1 S1 x1 a1 q1 => ?_
    cases c with
    | false => exact iteF (TL.go a1 q1 fun c H2 F2 S2 x2 a2 q2 => p c H2 F2 S2 (x1.trans x2) a2.sr q2)
    | true => exact iteT (p true H1 F1 S1 x1 a1.sr q1)
theorem dt_not (ha : DT X F0 a A) : DT X F0 (.UnaryOp .Not a pos) (tdNot A) :=
  PT.weak (pt_not ha) fun σ H Q ⟨F, S, ρ, Q', at0, h, p⟩ => TL.go at0 h fun c H1 F1 S1 x1 a1 q1 => p (!c) H1 F1 S1 x1 a1.sr q1
/-- as values: all but the last a bool -/
def tdAndV (ta tb : TD) : TD := fun ρ S Q => ta ρ S fun x S1 => ∃ c, x = .bl c ∧ if c = true then tb ρ S1 Q else Q (.bl false) S1
def tdOrV (ta tb : TD) : TD := fun ρ S Q => ta ρ S fun x S1 => ∃ c, x = .bl c ∧ if c = true then Q (.bl true) S1 else tb ρ S1 Q
def tdNotV (ta : TD) : TD := fun ρ S Q => ta ρ S fun x S1 => ∃ c, x = .bl c ∧ Q (.bl (!c)) S1
theorem de_one {op} (h : DE X F0 a t) : DE X F0 (.BoolOp op [a] pos) t := pe_one h
theorem de_and (ha : DE X F0 a ta) (hb : DE X F0 (.BoolOp .And (b :: rest) pos) tb) : DE X F0 (.BoolOp .And (a :: b :: rest) pos) (tdAndV ta tb) :=
  PE.weak (pe_and ha hb) fun σ H Q ⟨F, S, ρ, Q', at0, h, p⟩ => by
    refine EL.go at0 h fun v H1 F1 S1 d x1 a1 r1 ⟨c, e, q1⟩ => ?_
    subst e
    refine ⟨c, r1.bl_e, ?_⟩
    cases c with
    | true => exact iteT (EL.go a1 q1 fun v2 H2 F2 S2 d2 x2 a2 r2 q2 => p.of (x1.trans x2) a2.sr r2 q2)
    | false => exact iteF (p.of x1 a1.sr (.bl_i _) q1)
theorem de_or (ha : DE X F0 a ta) (hb : DE X F0 (.BoolOp .Or (b :: rest) pos) tb) : DE X F0 (.BoolOp .Or (a :: b :: rest) pos) (tdOrV ta tb) :=
  PE.weak (pe_or ha hb) fun σ H Q ⟨F, S, ρ, Q', at0, h, p⟩ => by
    refine EL.go at0 h fun v H1 F1 S1 d x1 a1 r1 ⟨c, e, q1⟩ => ?_
    subst e
    refine ⟨c, r1.bl_e, ?_⟩
    cases c with
    | false => exact iteF (EL.go a1 q1 fun v2 H2 F2 S2 d2 x2 a2 r2 q2 => p.of (x1.trans x2) a2.sr r2 q2)
    | true => exact iteT (p.of x1 a1.sr (.bl_i _) q1)
theorem de_not (ha : DE X F0 a ta) : DE X F0 (.UnaryOp .Not a pos) (tdNotV ta) :=
  PE.weak (pe_not ha) fun σ H Q ⟨F, S, ρ, Q', at0, h, p⟩ => by
    refine EL.go at0 h fun v H1 F1 S1 d x1 a1 r1 ⟨c, e, q1⟩ => ?_
    subst e
    exact ⟨c, r1.bl_e, p.of x1 a1.sr (.bl_i _) q1⟩
/-- x if c else y -/
def tdIf (c : TDT) (ta tb : TD) : TD := fun ρ S Q => c ρ S fun k S1 => if k = true then ta ρ S1 Q else tb ρ S1 Q
theorem de_if (hc : DT X F0 c A) (ha : DE X F0 a ta) (hb : DE X F0 b tb) : DE X F0 (.IfExp c a b pos) (tdIf A ta tb) :=
  PE.weak (pe_ifExp hc ha hb) fun σ H Q ⟨F, S, ρ, Q', at0, h, p⟩ => by
    refine TL.go at0 h fun c H1 F1 S1 x1 a1 q1 => ?_
    cases c with
    | true => exact iteT (EL.go a1 q1 fun v2 H2 F2 S2 d2 x2 a2 r2 q2 => p.of (x1.trans x2) a2.sr r2 q2)
    | false => exact iteF (EL.go a1 q1 fun v2 H2 F2 S2 d2 x2 a2 r2 q2 => p.of (x1.trans x2) a2.sr r2 q2)
def isNon : D → Bool
  | .non => true
  | _ => false
theorem isNon_rel {K : PySem.W.Frag} {F : Hp} {d : D} {v : V} (r : RelD K F d v) : decide (v = .non) = isNon d := by
  cases d with
  | non => rw [r.non_e]; rfl
  | bl b => rw [r.bl_e]; rfl
  | int i => rw [r.int_e]; rfl
  | str x => rw [r.str_e]; rfl
  | ref a => rw [r.ref_e]; rfl
  | ty a => rw [r.ty_e]; rfl
  | tup ds => obtain ⟨a, vs, rfl, _⟩ := r.tup_e; rfl
  | lst ds => obtain ⟨a, vs, rfl, _⟩ := r.lst_e; rfl
  | scr ds => obtain ⟨a, rfl, _⟩ := r.scr_e; rfl
  | dct ks ds => obtain ⟨a, o, vs, rfl, _⟩ := r.dct_e; rfl
def tdIsN (ta : TD) : TD := fun ρ S Q => ta ρ S fun x S1 => Q (.bl (isNon x)) S1
def tdNotN (ta : TD) : TD := fun ρ S Q => ta ρ S fun x S1 => Q (.bl (!isNon x)) S1
theorem isN_go {σ : St} {H : Hp} {Q : VK} (h : EL X.K F0 (tdIsN ta) σ H Q) : tIsN (EL X.K F0 ta) σ H Q := by
  obtain ⟨F, S, ρ, Q', at0, h, p⟩ := h
  exact EL.go at0 h fun v H1 F1 S1 d x1 a1 r1 q1 => p.of x1 a1.sr (by rw [isNon_rel r1]; exact .bl_i _) q1
theorem notN_go {σ : St} {H : Hp} {Q : VK} (h : EL X.K F0 (tdNotN ta) σ H Q) : tNotN (EL X.K F0 ta) σ H Q := by
  obtain ⟨F, S, ρ, Q', at0, h, p⟩ := h
  exact EL.go at0 h fun v H1 F1 S1 d x1 a1 r1 q1 => p.of x1 a1.sr (by rw [isNon_rel r1]; exact .bl_i _) q1
theorem de_isN {j p'} (ha : DE X F0 a ta) : DE X F0 (.Compare a [.Is] [.Constant .none j p'] pos) (tdIsN ta) := PE.weak (pe_cmp (pc_isN ha) rfl) fun _ _ _ h => isN_go h
theorem de_notN {j p'} (ha : DE X F0 a ta) : DE X F0 (.Compare a [.IsNot] [.Constant .none j p'] pos) (tdNotN ta) := PE.weak (pe_cmp (pc_notN ha) rfl) fun _ _ _ h => notN_go h
theorem dt_isN {j p'} (ha : DE X F0 a ta) : DT X F0 (.Compare a [.Is] [.Constant .none j p'] pos) (tdB (tdIsN ta)) :=
  PT.weak (pt_cmp (pc_isN ha) rfl) fun σ H Q ⟨F, S, ρ, Q', at0, h, p⟩ => isN_go ⟨F, S, ρ, _, at0, h, fun v H' F' S' d x r rd q => by
    obtain ⟨k, rfl, q⟩ := q
    exact ⟨k, rd.bl_e, p k H' F' S' x r q⟩⟩
theorem dt_notN {j p'} (ha : DE X F0 a ta) : DT X F0 (.Compare a [.IsNot] [.Constant .none j p'] pos) (tdB (tdNotN ta)) :=
  PT.weak (pt_cmp (pc_notN ha) rfl) fun σ H Q ⟨F, S, ρ, Q', at0, h, p⟩ => notN_go ⟨F, S, ρ, _, at0, h, fun v H' F' S' d x r rd q => by
    obtain ⟨k, rfl, q⟩ := q
    exact ⟨k, rd.bl_e, p k H' F' S' x r q⟩⟩
def tdNil : TDs := fun _ S Q => Q [] S
def tdCons (ta : TD) (tr : TDs) : TDs := fun ρ S Q => ta ρ S fun x S1 => tr ρ S1 fun xs S2 => Q (x :: xs) S2
variable {tr : TDs}
theorem da_nil : DA X F0 [] tdNil := PA.weak pa_nil fun σ H Q ⟨F, S, ρ, Q', a, q, p⟩ => p [] H F S [] (Ext.refl _ _ _) a.sr .nil q
theorem da_cons (ha : DE X F0 e t) (hr : DA X F0 es tr) (hs : starEach (e :: es) X.env = (false, eval e X.env) :: starEach es X.env := by rfl) : DA X F0 (e :: es) (tdCons t tr) :=
  PA.weak (pa_cons ha hr hs) fun σ H Q ⟨F, S, ρ, Q', a, q, p⟩ => by
    refine EL.go a q fun v1 H1 F1 S1 d1 x1 a1 r1 q1 => ?_
    refine AL.go a1 q1 fun v2 H2 F2 S2 d2 x2 a2 r2 q2 => ?_
    exact p _ H2 F2 S2 _ (x1.trans x2) a2.sr (.cons (RelD.mono x2.same _ _ r1) r2) q2
def tdTup (t : TDs) : TD := fun ρ S Q => t ρ S fun xs S1 => xs.length ≤ sizeLine ∧ Q (.tup xs) S1
def tdLst (t : TDs) : TD := fun ρ S Q => t ρ S fun xs S1 => xs.length ≤ sizeLine ∧ Q (.lst xs) S1
def tdBox (t : TDs) : TD := fun ρ S Q => t ρ S fun xs S1 => xs.length ≤ sizeLine ∧ ∀ p, S1 p = none → Q (.ref p) (sup S1 p (.lst xs))
theorem de_tup {x1} (h : DA X F0 es tr) : DE X F0 (.Tuple es x1 pos) (tdTup tr) :=
  PE.weak (pe_tup h) fun σ H Q ⟨F, S, ρ, Q', a, q, p⟩ => by
    refine AL.go a q fun vs H1 F1 S1 ds x1 a1 r1 ⟨hl, q1⟩ => ⟨by rw [r1.length]; exact hl, fun pp hp => ?_⟩
    exact p.of (x1.trans (a1.sr.ext_frz hp)) (a1.sr.frz hp) (RelD.tup_i (.of upd_same) (RelDs.mono (a1.sr.same_frz hp) _ _ r1)) q1
theorem de_lst (h : DA X F0 es tr) : DE X F0 (.List es pos) (tdLst tr) :=
  PE.weak (pe_lst h) fun σ H Q ⟨F, S, ρ, Q', a, q, p⟩ => by
    refine AL.go a q fun vs H1 F1 S1 ds x1 a1 r1 ⟨hl, q1⟩ => ⟨by rw [r1.length]; exact hl, fun pp hp => ?_⟩
    exact p.of (x1.trans (a1.sr.ext_frz hp)) (a1.sr.frz hp) (RelD.lst_i upd_same (RelDs.mono (a1.sr.same_frz hp) _ _ r1)) q1
theorem de_box (h : DA X F0 es tr) : DE X F0 (.List es pos) (tdBox tr) :=
  PE.weak (pe_lst h) fun σ H Q ⟨F, S, ρ, Q', a, q, p⟩ => by
    refine AL.go a q fun vs H1 F1 S1 ds x1 a1 r1 ⟨hl, q1⟩ => ⟨by rw [r1.length]; exact hl, fun pp hp => ?_⟩
    exact p.of (x1.trans (a1.sr.ext_box hp)) (a1.sr.box (o := .lst ds) hp ⟨_, rfl, r1⟩) (.ref_i _) (q1 pp (a1.sr.snone hp))
end
end DL
namespace DL
open PySem PySem.Spec L2
theorem OpR.weak {X : Cx} {f : Value → Value → Sem Value} {r r' : R2} (h : OpR X f r) (w : ∀ x y H Q, r' x y H Q → r x y H Q) : OpR X f r' := fun pins s σ H x y v u Q I rx ry q => h pins s σ H x y v u Q I rx ry (w _ _ _ _ q)
theorem OpR.or {X : Cx} {f : Value → Value → Sem Value} {r r' : R2} (h : OpR X f r) (h' : OpR X f r') : OpR X f (fun x y H Q => r x y H Q ∨ r' x y H Q) := fun pins s σ H x y v u Q I rx ry q =>
  q.elim (h pins s σ H x y v u Q I rx ry) (h' pins s σ H x y v u Q I rx ry)
/-- a list of the store, looked at -/
def vwS (S : Store) (a : Addr) : D := match S a with
  | some (.lst ds) => .lst ds
  | _ => .ref a
def vw (S : Store) : D → D
  | .ref a => vwS S a
  | d => d
theorem vw_ref {S : Store} {a : Addr} {ds : List D} (h : S a = some (.lst ds)) : vw S (.ref a) = .lst ds := by
  show vwS S a = _
  unfold vwS; rw [h]
theorem vw_case (S : Store) (d : D) : vw S d = d ∨ ∃ a ds, d = .ref a ∧ S a = some (.lst ds) ∧ vw S d = .lst ds := by
  cases d with
  | ref a =>
    cases h : S a with
    | none => exact .inl (by show vwS S a = _; unfold vwS; rw [h])
    | some o =>
      cases o with
      | lst ds => exact .inr ⟨a, ds, rfl, h, vw_ref h⟩
      | dic _ => exact .inl (by show vwS S a = _; unfold vwS; rw [h])
      | ins _ _ => exact .inl (by show vwS S a = _; unfold vwS; rw [h])
      | dn _ _ _ => exact .inl (by show vwS S a = _; unfold vwS; rw [h])
  | _ => exact .inl rfl
section
variable {K : PySem.W.Frag} {F : Hp} {S : Store} {H : Hp} {d : D} {v : V}
theorem vw_lst (h : SR K F S H) (r : RelD K F d v) {ds : List D} (e : vw S d = .lst ds) : ∃ a vs, v = .ref a ∧ H a = some (.lst vs) ∧ RelDs K F ds vs := by
  rcases vw_case S d with q | ⟨a, es, rfl, q1, q2⟩
  · rw [q] at e; subst e
    obtain ⟨a, vs, h1, h2, h3⟩ := r.lst_e
    exact ⟨a, vs, h1, h.fro _ _ h2, h3⟩
  · rw [q2] at e; cases e
    obtain ⟨vs, h1, h2⟩ := h.lst q1
    exact ⟨a, vs, r.ref_e, h1, h2⟩
theorem vw_int (r : RelD K F d v) {i : Int} (e : vw S d = .int i) : v = .int i := by
  rcases vw_case S d with q | ⟨a, es, rfl, q1, q2⟩
  · rw [q] at e; subst e; exact r.int_e
  · rw [q2] at e; cases e
theorem vw_bl (r : RelD K F d v) {i : Bool} (e : vw S d = .bl i) : v = .bl i := by
  rcases vw_case S d with q | ⟨a, es, rfl, q1, q2⟩
  · rw [q] at e; subst e; exact r.bl_e
  · rw [q2] at e; cases e
theorem vw_non (r : RelD K F d v) (e : vw S d = .non) : v = .non := by
  rcases vw_case S d with q | ⟨a, es, rfl, q1, q2⟩
  · rw [q] at e; subst e; exact r.non_e
  · rw [q2] at e; cases e
theorem vw_str (r : RelD K F d v) {t : Tx} (e : vw S d = .str t) : v = .str (tS t) := by
  rcases vw_case S d with q | ⟨a, es, rfl, q1, q2⟩
  · rw [q] at e; subst e; exact r.str_e
  · rw [q2] at e; cases e
theorem vw_tup (h : SR K F S H) (r : RelD K F d v) {ds : List D} (e : vw S d = .tup ds) : ∃ a vs, v = .ref a ∧ SqT K H a vs ∧ RelDs K F ds vs := by
  rcases vw_case S d with q | ⟨a, es, rfl, q1, q2⟩
  · rw [q] at e; subst e
    obtain ⟨a, vs, h1, h2, h3⟩ := r.tup_e
    exact ⟨a, vs, h1, seqT h.fro h2, h3⟩
  · rw [q2] at e; cases e
theorem vw_scr (h : SR K F S H) (r : RelD K F d v) {ns : List Int} (e : vw S d = .scr ns) : ∃ a, v = .ref a ∧ SqL K H a (ns.map V.int) := by
  rcases vw_case S d with q | ⟨a, es, rfl, q1, q2⟩
  · rw [q] at e; subst e
    obtain ⟨a, h1, h2⟩ := r.scr_e
    exact ⟨a, h1, h.fro.seq h2⟩
  · rw [q2] at e; cases e
end
def gAdd : DOp := fun S x y Q => match vw S x, vw S y with
  | .int i, .int j => Q (.int (i + j)) S
  | .str a, .str b => a.length + b.length ≤ sizeLine ∧ Q (.str (a ++ b)) S
  | .lst xs, .lst ys => xs.length + ys.length ≤ sizeLine ∧ Q (.lst (xs ++ ys)) S
  | _, _ => False
section
variable {X : Cx}
theorem od_add : OpR X (binaryOp .Add) (OL X.K gAdd) := by
  refine OpR.weak (OpR.or op_add (OpR.or op_add_str op_cat)) fun x y H Q ⟨F, S, dx, dy, Q', sr, rx, ry, g, p⟩ => ?_
  unfold gAdd at g
  split at g
  · rename_i i j e1 e2
    exact .inl ⟨i, j, vw_int rx e1, vw_int ry e2, p.of (Ext.refl _ _ _) sr (.int_i _) g⟩
  · rename_i a b e1 e2
    refine .inr (.inl ⟨_, _, vw_str rx e1, vw_str ry e2, by rw [tS_length, tS_length]; exact g.1, ?_⟩)
    rw [tS_append]
    exact p.of (Ext.refl _ _ _) sr (.str_i _) g.2
  · rename_i a b e1 e2
    obtain ⟨p1, v1, rfl, h1, k1⟩ := vw_lst sr rx e1
    obtain ⟨p2, v2, rfl, h2, k2⟩ := vw_lst sr ry e2
    refine .inr (.inr ⟨p1, p2, v1, v2, rfl, rfl, h1, h2, by rw [k1.length, k2.length]; exact g.1, fun q hq => ?_⟩)
    exact p.of (sr.ext_frz hq) (sr.frz hq) (RelD.lst_i upd_same (RelDs.mono (sr.same_frz hq) _ _ (k1.append k2))) g.2
  · exact g.elim
def gI (C : Int → Int → Prop) (f : Int → Int → D) : DOp := fun S x y Q => match x, y with
  | .int i, .int j => C i j ∧ Q (f i j) S
  | _, _ => False
theorem od_I {f : Value → Value → Sem Value} {C : Int → Int → Prop} {g : Int → Int → Int} (h : OpR X f (rI C fun i j => .int (g i j))) : OpR X f (OL X.K (gI C fun i j => .int (g i j))) :=
  OpR.weak h fun x y H Q ⟨F, S, dx, dy, Q', sr, rx, ry, q, p⟩ => by
    unfold gI at q
    split at q
    · exact ⟨_, _, rx.int_e, ry.int_e, q.1, p.of (Ext.refl _ _ _) sr (.int_i _) q.2⟩
    · exact q.elim
def gI0 (f : Int → Int → D) : DOp := fun S x y Q => match x, y with
  | .int i, .int j => Q (f i j) S
  | _, _ => False
theorem od_I0 {f : Value → Value → Sem Value} {g : Int → Int → Int} (h : OpR X f (rI0 fun i j => .int (g i j))) : OpR X f (OL X.K (gI0 fun i j => .int (g i j))) :=
  OpR.weak h fun x y H Q ⟨F, S, dx, dy, Q', sr, rx, ry, q, p⟩ => by
    unfold gI0 at q
    split at q
    · exact ⟨_, _, rx.int_e, ry.int_e, p.of (Ext.refl _ _ _) sr (.int_i _) q⟩
    · exact q.elim
abbrev gSub : DOp := gI0 fun i j => .int (i - j)
abbrev gMod : DOp := gI (fun _ j => j ≠ 0) fun i j => .int (i.fmod j)
abbrev gDiv : DOp := gI CDivN fun i j => .int (i.fdiv j)
abbrev gPow : DOp := gI CPow fun i j => .int (i ^ j.toNat)
theorem od_sub : OpR X (binaryOp .Sub) (OL X.K gSub) := od_I0 op_sub
theorem od_mod : OpR X (binaryOp .Mod) (OL X.K gMod) := od_I op_modN
theorem od_div : OpR X (binaryOp .FloorDiv) (OL X.K gDiv) := od_I op_fdivN
theorem od_pow : OpR X (binaryOp .Pow) (OL X.K gPow) := od_I op_pow
/-- texts repeated -/
def repT : Nat → Tx → Tx
  | 0, _ => []
  | n + 1, t => t ++ repT n t
theorem foldl_rep (x : Tx) : ∀ (n : Nat) (acc : Array Nat), (List.replicate n x.toArray).foldl (· ++ ·) acc = acc ++ (repT n x).toArray
  | 0, acc => by simp [repT]
  | n + 1, acc => by
    rw [List.replicate_succ, List.foldl_cons, foldl_rep x n]
    simp [repT]
theorem repT_length (n : Nat) (t : Tx) : (repT n t).length = n * t.length := by
  induction n with
  | zero => simp [repT]
  | succ n ih => simp [repT, ih, Nat.succ_mul, Nat.add_comm]
def gMul : DOp := fun S x y Q => match x, y with
  | .int i, .int j => CMul i j ∧ Q (.int (i * j)) S
  | .str t, .int n => 2 ≤ n ∧ n ≤ 1000 ∧ 1 ≤ t.length ∧ t.length ≤ 1000 ∧ Q (.str (repT n.toNat t)) S
  | _, _ => False
theorem op_mulS : OpR X (binaryOp .Mult) (fun x y H Q => ∃ (t : Tx) (n : Int), x = .str (tS t) ∧ y = .int n ∧ 2 ≤ n ∧ n ≤ 1000 ∧ 1 ≤ t.length ∧ t.length ≤ 1000 ∧ Q (.str (tS (repT n.toNat t))) H) := by
  intro pins s σ H x y v u Q I rx ry ⟨t, n, e1, e2, h2, h3, h4, h5, q⟩
  subst e1; subst e2
  obtain ⟨tk, rfl⟩ := rx
  obtain ⟨tk2, rfl⟩ := ry
  have hlen : (tS t).length = t.length := tS_length t
  have n1 : (n == 1) = false := by simp; omega
  have n2 : ((tS t).length == 0) = false := by rw [hlen]; simp; intro z; rw [z] at h4; simp at h4
  have hm : t.length * n.toNat ≤ 1000 * 1000 := Nat.mul_le_mul h5 (by omega)
  refine P.mul_str (by simp; omega) (fun _ _ => ?_) (fun _ _ => ?_) ?_
  · rw [hlen]
    have : (1000 : Int) ≤ (2 ^ 63 - 1) / n := by
      rw [Int.le_ediv_iff_mul_le (by omega)]; omega
    omega
  · rw [hlen]
    show decide _ = false
    exact decide_eq_false (Nat.not_lt.mpr (Nat.le_trans hm (by decide)))
  · rw [if_neg (by omega), if_neg (by rw [n1, n2]; simp), foldl_rep t n.toNat #[]]
    simp only [Made.post]
    refine ⟨by first | trivial | (simp only [Array.empty_append]; show (repT n.toNat t).toArray.size ≤ _; rw [List.size_toArray, repT_length]; exact Nat.le_trans (by rw [Nat.mul_comm]; exact hm) (by decide)), ?_⟩
    simp only [Array.empty_append]
    exact ⟨.str (tS (repT n.toNat t)), H, I.tok _, ⟨_, rfl⟩, q⟩
theorem od_mul : OpR X (binaryOp .Mult) (OL X.K gMul) := by
  refine OpR.weak (OpR.or op_mul op_mulS) fun x y H Q ⟨F, S, dx, dy, Q', sr, rx, ry, g, p⟩ => ?_
  unfold gMul at g
  split at g
  · exact .inl ⟨_, _, rx.int_e, ry.int_e, g.1, p.of (Ext.refl _ _ _) sr (.int_i _) g.2⟩
  · obtain ⟨h2, h3, h4, h5, g⟩ := g
    exact .inr ⟨_, _, rx.str_e, ry.int_e, h2, h3, h4, h5, p.of (Ext.refl _ _ _) sr (.str_i _) g⟩
  · exact g.elim
mutual
def D.data : D → PyData
  | .non => .none
  | .bl b => .bool b
  | .int i => .int i
  | .str t => .str (tS t)
  | .tup ds => .tuple (D.datas ds)
  | .lst ds => .list (D.datas ds)
  | .scr ns => .list (ns.map PyData.int)
  | .ref _ => .none
  | .ty _ => .none
  | .dct _ _ => .none
def D.datas : List D → List PyData
  | [] => []
  | d :: ds => D.data d :: D.datas ds
end
mutual
/-- nothing but data within -/
def D.pure : D → Bool
  | .ref _ => false
  | .ty _ => false
  | .dct _ _ => false
  | .tup ds => D.pures ds
  | .lst ds => D.pures ds
  | _ => true
def D.pures : List D → Bool
  | [] => true
  | d :: ds => D.pure d && D.pures ds
end
section
variable {K : PySem.W.Frag} {F : Hp} {S : Store} {H : Hp}
mutual
theorem RelD.dp (e : Same F H) : ∀ (d : D) (v : V), d.pure = true → RelD K F d v → Dp K H v d.data
  | .non, v, _, r => by rw [r.non_e]; unfold D.data; exact .non
  | .bl b, v, _, r => by rw [r.bl_e]; unfold D.data; exact .bl b
  | .int b, v, _, r => by rw [r.int_e]; unfold D.data; exact .int b
  | .str b, v, _, r => by rw [r.str_e]; unfold D.data; exact .str _
  | .tup ds, v, h, r => by
    unfold D.pure at h
    obtain ⟨a, vs, rfl, h2, h3⟩ := r.tup_e
    unfold D.data
    exact .tup (seqT e h2) (RelDs.dp e ds vs h h3)
  | .lst ds, v, h, r => by
    unfold D.pure at h
    obtain ⟨a, vs, rfl, h2, h3⟩ := r.lst_e
    unfold D.data
    exact .lst (.of (e _ _ h2)) (RelDs.dp e ds vs h h3)
  | .scr ns, v, h, r => by
    obtain ⟨a, rfl, h2⟩ := r.scr_e
    unfold D.data
    refine .lst (e.seq h2) ?_
    clear h2 r
    induction ns with
    | nil => exact .nil
    | cons n ns ih => exact .cons (.int n) (ih h)
  | .ref _, _, h, _ => by unfold D.pure at h; cases h
  | .ty _, _, h, _ => by unfold D.pure at h; cases h
  | .dct _ _, _, h, _ => by unfold D.pure at h; cases h
theorem RelDs.dp (e : Same F H) : ∀ (ds : List D) (vs : List V), D.pures ds = true → RelDs K F ds vs → DpAll K H vs (D.datas ds)
  | [], vs, _, r => by rw [r.nil_inv]; unfold D.datas; exact .nil
  | d :: ds, vs, h, r => by
    unfold D.pures at h
    obtain ⟨h1, h2⟩ := Bool.and_eq_true_iff.mp h
    obtain ⟨v, q, rfl, h3, h4⟩ := r.cons_inv
    unfold D.datas
    exact .cons (RelD.dp e d v h1 h3) (RelDs.dp e ds q h2 h4)
end
theorem vw_dp (sr : SR K F S H) {d : D} {v : V} (r : RelD K F d v) (hp : (vw S d).pure = true) : Dp K H v (vw S d).data := by
  rcases vw_case S d with q | ⟨a, es, rfl, q1, q2⟩
  · rw [q] at hp ⊢; exact RelD.dp sr.fro d v hp r
  · rw [q2] at hp ⊢
    obtain ⟨vs, h1, h2⟩ := sr.lst q1
    rw [r.ref_e]
    unfold D.pure at hp
    unfold D.data
    exact .lst (.of h1) (RelDs.dp sr.fro es vs hp h2)
end
/-- == of two things that are no lists and no tuples; none: not told -/
def eqS : D → D → Option Bool
  | .non, .non => some true
  | .non, .int _ => some false | .int _, .non => some false
  | .non, .bl _ => some false | .bl _, .non => some false
  | .non, .str _ => some false | .str _, .non => some false
  | .int i, .int j => some (decide (i = j))
  | .bl i, .bl j => some (decide (i = j))
  | .str i, .str j => some (decide (i = j))
  | .int _, .str _ => some false | .str _, .int _ => some false
  | .bl _, .str _ => some false | .str _, .bl _ => some false
  | _, _ => none
theorem eqS_scal {K : PySem.W.Frag} {F : Hp} {x y : D} {v u : V} {b : Bool} (h : eqS x y = some b) (rx : RelD K F x v) (ry : RelD K F y u) : scal v u = true ∧ decide (v = u) = b := by
  unfold eqS at h
  split at h <;> first
    | (cases h; done)
    | (have hb := Option.some.inj h; subst hb
       first
        | (rw [rx.non_e, ry.non_e]; exact ⟨rfl, by simp⟩)
        | (rw [rx.non_e, ry.int_e]; exact ⟨rfl, by simp⟩)
        | (rw [rx.int_e, ry.non_e]; exact ⟨rfl, by simp⟩)
        | (rw [rx.non_e, ry.bl_e]; exact ⟨rfl, by simp⟩)
        | (rw [rx.bl_e, ry.non_e]; exact ⟨rfl, by simp⟩)
        | (rw [rx.non_e, ry.str_e]; exact ⟨rfl, by simp⟩)
        | (rw [rx.str_e, ry.non_e]; exact ⟨rfl, by simp⟩)
        | (rw [rx.int_e, ry.int_e]; exact ⟨rfl, by simp⟩)
        | (rw [rx.bl_e, ry.bl_e]; exact ⟨rfl, by simp⟩)
        | (rw [rx.str_e, ry.str_e]; exact ⟨rfl, by simp⟩)
        | (rw [rx.int_e, ry.str_e]; exact ⟨rfl, by simp⟩)
        | (rw [rx.str_e, ry.int_e]; exact ⟨rfl, by simp⟩)
        | (rw [rx.bl_e, ry.str_e]; exact ⟨rfl, by simp⟩)
        | (rw [rx.str_e, ry.bl_e]; exact ⟨rfl, by simp⟩))
def gEq (f : Bool → Bool) : DOp := fun S x y Q => match eqS x y with
  | some b => Q (.bl (f b)) S
  | none => (vw S x).pure = true ∧ (vw S y).pure = true ∧ SeqAt.shaped (vw S x).data = true ∧ SeqAt.shaped (vw S y).data = true ∧ Q (.bl (f (PyData.eqv (vw S x).data (vw S y).data))) S
theorem od_eq (hu : X.A.units + 64 < cLine) : OpR X (compareOp .Eq) (OL X.K (gEq id)) := by
  refine OpR.weak (OpR.or op_eq (op_eqD hu)) fun x y H Q ⟨F, S, dx, dy, Q', sr, rx, ry, g, p⟩ => ?_
  unfold gEq at g
  split at g
  · rename_i b e
    obtain ⟨h1, h2⟩ := eqS_scal e rx ry
    exact .inl ⟨h1, p.of (Ext.refl _ _ _) sr (by rw [h2]; exact .bl_i _) g⟩
  · obtain ⟨h1, h2, h3, h4, g⟩ := g
    exact .inr ⟨_, _, vw_dp sr rx h1, vw_dp sr ry h2, h3, h4, p.of (Ext.refl _ _ _) sr (.bl_i _) g⟩
theorem od_ne (hu : X.A.units + 64 < cLine) : OpR X (compareOp .NotEq) (OL X.K (gEq not)) := by
  refine OpR.weak (OpR.or op_ne (op_neD hu)) fun x y H Q ⟨F, S, dx, dy, Q', sr, rx, ry, g, p⟩ => ?_
  unfold gEq at g
  split at g
  · rename_i b e
    obtain ⟨h1, h2⟩ := eqS_scal e rx ry
    exact .inl ⟨h1, p.of (Ext.refl _ _ _) sr (by rw [h2]; exact .bl_i _) g⟩
  · obtain ⟨h1, h2, h3, h4, g⟩ := g
    exact .inr ⟨_, _, vw_dp sr rx h1, vw_dp sr ry h2, h3, h4, p.of (Ext.refl _ _ _) sr (.bl_i _) g⟩
/-- order of ints -/
def gOrd (f : Int → Int → Bool) : DOp := fun S x y Q => match x, y with
  | .int i, .int j => Q (.bl (f i j)) S
  | _, _ => False
theorem od_ord {op : CmpOp} {f : Int → Int → Bool} (h : OpR X (compareOp op) (rI0 fun i j => .bl (f i j))) : OpR X (compareOp op) (OL X.K (gOrd f)) :=
  OpR.weak h fun x y H Q ⟨F, S, dx, dy, Q', sr, rx, ry, q, p⟩ => by
    unfold gOrd at q
    split at q
    · exact ⟨_, _, rx.int_e, ry.int_e, p.of (Ext.refl _ _ _) sr (.bl_i _) q⟩
    · exact q.elim
/-- in: a sign in a text; a flat thing in a list or tuple of flat things -/
def flatD : D → Bool
  | .non => true | .bl _ => true | .int _ => true | .str _ => true
  | _ => false
def eqF : D → D → Bool
  | .non, .non => true
  | .bl a, .bl b => a == b
  | .bl a, .int b => (if a then 1 else 0) == b
  | .int a, .bl b => a == (if b then 1 else 0)
  | .int a, .int b => a == b
  | .str a, .str b => a == b
  | _, _ => false
theorem flat_rel {K : PySem.W.Frag} {F : Hp} {x : D} {v : V} (h : flatD x = true) (r : RelD K F x v) : flatV v = true := by
  cases x <;> first
    | (cases h; done)
    | (rw [r.non_e]; rfl) | (rw [r.bl_e]; rfl) | (rw [r.int_e]; rfl) | (rw [r.str_e]; rfl)
theorem tS_beq (a b : Tx) : (tS a == tS b) = (a == b) := by
  rw [Bool.eq_iff_iff]
  simp
theorem eqF_rel {K : PySem.W.Frag} {F : Hp} {x y : D} {v u : V} (h : flatD x = true) (g : flatD y = true) (r : RelD K F x v) (q : RelD K F y u) : eqV v u = eqF x y := by
  cases x <;> first
    | (cases h; done)
    | (cases y <;> first
        | (cases g; done)
        | (first
            | rw [r.non_e] | rw [r.bl_e] | rw [r.int_e] | rw [r.str_e]
           first
            | rw [q.non_e] | rw [q.bl_e] | rw [q.int_e] | rw [q.str_e]
           first | rfl | exact tS_beq _ _))
def gIn (f : Bool → Bool) : DOp := fun S x y Q => match x, vw S y with
  | .str t, .str z => ∃ c, t = [c] ∧ Q (.bl (f (decide (c ∈ z)))) S
  | x, .lst ds => flatD x = true ∧ ds.all flatD = true ∧ Q (.bl (f (ds.any fun y => eqF y x))) S
  | x, .tup ds => flatD x = true ∧ ds.all flatD = true ∧ Q (.bl (f (ds.any fun y => eqF y x))) S
  | _, _ => False
theorem any_rel {K : PySem.W.Frag} {F : Hp} {x : D} {v : V} (h : flatD x = true) (r : RelD K F x v) : ∀ {ds : List D} {vs : List V}, ds.all flatD = true → RelDs K F ds vs → vs.all flatV = true ∧ inV v vs = ds.any fun y => eqF y x
  | [], _, _, q => by rw [q.nil_inv]; exact ⟨rfl, rfl⟩
  | d :: ds, _, hd, q => by
    obtain ⟨w, vs, rfl, h1, h2⟩ := q.cons_inv
    rw [List.all_cons, Bool.and_eq_true] at hd
    obtain ⟨k1, k2⟩ := any_rel h r hd.2 h2
    refine ⟨by rw [List.all_cons, k1, flat_rel hd.1 h1]; rfl, ?_⟩
    show (List.any (w :: vs) fun y => eqV y v) = _
    rw [List.any_cons, List.any_cons, eqF_rel hd.1 h h1 r]
    rw [show (vs.any fun y => eqV y v) = inV v vs from rfl, k2]
theorem in_case {F : Hp} {S : Store} {H : Hp} {dx dy : D} {x y : V} {Q : VK} {Q' : D → Store → Prop} {f : Bool → Bool} (sr : SR X.K F S H) (rx : RelD X.K F dx x) (ry : RelD X.K F dy y) (g : gIn f S dx dy Q') (p : Post X.K F S H Q' Q) :
    (∃ (c : Nat) (z : Str), x = .str ⟨#[c]⟩ ∧ y = .str z ∧ Q (.bl (f (decide (c ∈ z.cps.toList)))) H) ∨
    ∃ a xs, y = .ref a ∧ (SqL X.K H a xs ∨ SqT X.K H a xs) ∧ flatV x = true ∧ xs.all flatV = true ∧ Q (.bl (f (inV x xs))) H := by
  unfold gIn at g
  split at g
  · rename_i t z e
    obtain ⟨c, rfl, g⟩ := g
    refine .inl ⟨c, tS z, rx.str_e, vw_str ry e, ?_⟩
    exact p.of (Ext.refl _ _ _) sr (.bl_i _) (by simpa using g)
  · rename_i e
    obtain ⟨h1, h2, g⟩ := g
    obtain ⟨a, vs, rfl, k1, k2⟩ := vw_lst sr ry e
    obtain ⟨k3, k4⟩ := any_rel h1 rx h2 k2
    exact .inr ⟨a, vs, rfl, .inl (.of k1), flat_rel h1 rx, k3, p.of (Ext.refl _ _ _) sr (by rw [k4]; exact .bl_i _) g⟩
  · rename_i e
    obtain ⟨h1, h2, g⟩ := g
    obtain ⟨a, vs, rfl, k1, k2⟩ := vw_tup sr ry e
    obtain ⟨k3, k4⟩ := any_rel h1 rx h2 k2
    exact .inr ⟨a, vs, rfl, .inr k1, flat_rel h1 rx, k3, p.of (Ext.refl _ _ _) sr (by rw [k4]; exact .bl_i _) g⟩
  · exact g.elim
theorem od_in : OpR X (compareOp .In) (OL X.K (gIn id)) := by
  refine OpR.weak (OpR.or op_in_sign op_in_seq) fun x y H Q ⟨F, S, dx, dy, Q', sr, rx, ry, g, p⟩ => ?_
  rcases in_case sr rx ry g p with ⟨c, z, h1, h2, h3⟩ | ⟨a, xs, h1, h2, h3, h4, h5⟩
  · exact .inl ⟨c, z, h1, h2, h3⟩
  · exact .inr ⟨a, xs, h1, h2, h3, h4, h5⟩
theorem od_nin : OpR X (compareOp .NotIn) (OL X.K (gIn not)) := by
  refine OpR.weak (OpR.or op_notIn_sign op_notIn_seq) fun x y H Q ⟨F, S, dx, dy, Q', sr, rx, ry, g, p⟩ => ?_
  rcases in_case sr rx ry g p with ⟨c, z, h1, h2, h3⟩ | ⟨a, xs, h1, h2, h3, h4, h5⟩
  · exact .inl ⟨c, z, h1, h2, h3⟩
  · exact .inr ⟨a, xs, h1, h2, h3, h4, h5⟩
end
end DL
namespace DL
open PySem PySem.Spec L2
theorem IxR.weak {X : Cx} {r r' : R2} (h : IxR X r) (w : ∀ x y H Q, r' x y H Q → r x y H Q) : IxR X r' := fun va sl pins s σ H x y v u Q I rx ry q => h va sl pins s σ H x y v u Q I rx ry (w _ _ _ _ q)
def ixP (S : Store) (x y : D) : Option D := match vw S x, y with
  | .tup ds, .int i => atI ds i
  | .lst ds, .int i => atI ds i
  | .scr ns, .int i => (atI ns i).map D.int
  | .str t, .int i => if t.length ≤ sizeLine then (atI t i).map fun c => .str [c] else none
  | _, _ => none
def gIx : DOp := fun S x y Q => ∃ d, ixP S x y = some d ∧ Q d S
theorem atI_rel {K : PySem.W.Frag} {F : Hp} {ds : List D} {vs : List V} {i : Int} {d : D} (r : RelDs K F ds vs) (h : atI ds i = some d) : ∃ v, atI vs i = some v ∧ RelD K F d v := by
  unfold atI at h ⊢
  rw [r.length]
  cases q : ixN ds.length i with
  | none => rw [q] at h; cases h
  | some j =>
    rw [q] at h
    exact r.get (show ds[j]? = some d from h)
theorem atI_map {α β : Type} (f : α → β) (xs : List α) (i : Int) : atI (xs.map f) i = (atI xs i).map f := by
  unfold atI
  rw [List.length_map]
  cases ixN xs.length i with
  | none => rfl
  | some j => exact List.getElem?_map
section
variable {X : Cx} {F0 : Ent} {e a b c lo hi : Expr} {es : List Expr} {t ta tb : TD} {tr : TDs} {pos p2 : Pos}
theorem ox_ix : IxR X (OL X.K gIx) := by
  refine IxR.weak (IxR.or (ix_list (X := X)) (IxR.or (ix_tup (X := X)) ix_str)) fun x y H Q ⟨F, S, dx, dy, Q', sr, rx, ry, g, p⟩ => ?_
  obtain ⟨d, g, q⟩ := g
  unfold ixP at g
  split at g
  · rename_i ds i e
    obtain ⟨a, vs, rfl, h1, h2⟩ := vw_tup sr rx e
    obtain ⟨v, h3, h4⟩ := atI_rel h2 g
    exact .inr (.inl ⟨a, vs, _, v, rfl, ry.int_e, h1, h3, p.of (Ext.refl _ _ _) sr h4 q⟩)
  · rename_i ds i e
    obtain ⟨a, vs, rfl, h1, h2⟩ := vw_lst sr rx e
    obtain ⟨v, h3, h4⟩ := atI_rel h2 g
    exact .inl ⟨a, vs, _, v, rfl, ry.int_e, .of h1, h3, p.of (Ext.refl _ _ _) sr h4 q⟩
  · rename_i ds i e
    obtain ⟨a, rfl, h1⟩ := vw_scr sr rx e
    cases h : atI ds i with
    | none => rw [h] at g; cases g
    | some n =>
      rw [h] at g; cases g
      exact .inl ⟨a, _, _, .int n, rfl, ry.int_e, h1, by rw [atI_map, h]; rfl, p.of (Ext.refl _ _ _) sr (.int_i _) q⟩
  · rename_i t i e
    split at g
    · rename_i hl
      cases h : atI t i with
      | none => rw [h] at g; cases g
      | some n =>
        rw [h] at g; cases g
        exact .inr (.inr ⟨tS t, i, n, vw_str rx e, ry.int_e, by rw [tS_length]; exact hl, by simpa using h, p.of (Ext.refl _ _ _) sr (.str_i _) q⟩)
    · cases g
  · cases g
theorem de_ix (ha : DE X F0 a ta) (hb : DE X F0 b tb) (hs : PlainIx b := by exact fun _ _ => rfl) : DE X F0 (.Subscript a b pos) (tdOp gIx ta tb) := PE.weak (pe_ix ox_ix ha hb hs) fun _ _ _ h => op_go h
abbrev TDO := Rho → Store → (Option Int → Store → Prop) → Prop
def OLo (K : PySem.W.Frag) (F0 : Ent) (t : TDO) : TO := fun σ H Q => ∃ F S ρ Q', At K F0 F S H ρ σ ∧ t ρ S Q' ∧ ∀ o H' F' S', Ext F S H F' S' H' → SR K F' S' H' → Q' o S' → Q o H'
def DO' (X : Cx) (F0 : Ent) (e : Option Expr) (t : TDO) : Prop := PO X e (OLo X.K F0 t)
def tdNoP : TDO := fun _ S Q => Q none S
def tdP (t : TD) : TDO := fun ρ S Q => t ρ S fun x S1 => match x with
  | .int i => Q (some i) S1
  | _ => False
theorem PO.weak {e : Option Expr} {t t' : TO} (h : PO X e t) (w : ∀ σ H Q, t' σ H Q → t σ H Q) : PO X e t' := ⟨fun pins s σ H Q I q => h.run pins s σ H Q I (w _ _ _ q)⟩
theorem do_none : DO' X F0 none tdNoP := PO.weak po_none fun σ H Q ⟨F, S, ρ, Q', a, q, p⟩ => p none H F S (Ext.refl _ _ _) a.sr q
theorem do_some (h : DE X F0 e t) : DO' X F0 (some e) (tdP t) := PO.weak (po_some h) fun σ H Q ⟨F, S, ρ, Q', a, q, p⟩ => by
  refine EL.go a q fun v1 H1 F1 S1 d1 x1 a1 r1 q1 => ?_
  split at q1
  · exact ⟨_, r1.int_e, p _ H1 F1 S1 x1 a1.sr q1⟩
  · exact q1.elim
/-- a part of a list by places -/
def cutL {α : Type} (xs : List α) (lo hi : Option Int) : List α := (xs.drop (HT.sIx xs.length 0 lo)).take (HT.sIx xs.length xs.length hi - HT.sIx xs.length 0 lo)
theorem cutL_rel {K : PySem.W.Frag} {F : Hp} {ds : List D} {vs : List V} (r : RelDs K F ds vs) (lo hi : Option Int) : RelDs K F (cutL ds lo hi) (cutV vs lo hi) := by
  unfold cutL cutV
  rw [r.length]
  exact (r.drop _).take _
def gSl (S : Store) (x : D) (lo hi : Option Int) (Q : D → Store → Prop) : Prop := match vw S x with
  | .str t => t.length ≤ sizeLine ∧ Q (.str (cutL t lo hi)) S
  | .lst ds => Q (.lst (cutL ds lo hi)) S
  | .tup ds => ¬ (HT.sIx ds.length 0 lo = 0 ∧ HT.sIx ds.length ds.length hi = ds.length) ∧ Q (.tup (cutL ds lo hi)) S
  | _ => False
def tdSl (ta : TD) (tl th : TDO) : TD := fun ρ S Q => ta ρ S fun x S1 => tl ρ S1 fun lo S2 => th ρ S2 fun hi S3 => gSl S3 x lo hi Q
theorem de_sl {tl th : TDO} {lo hi : Option Expr} (ha : DE X F0 a ta) (hl : DO' X F0 lo tl) (hh : DO' X F0 hi th) : DE X F0 (.Subscript a (.Slice lo hi none p2) pos) (tdSl ta tl th) :=
  PE.weak (pe_slice (SlR.or sl_str (SlR.or sl_list sl_tup)) ha hl hh) fun σ H Q ⟨F, S, ρ, Q', at0, q, p⟩ => by
    refine EL.go at0 q fun v H1 F1 S1 d x1 a1 r1 q1 => ?_
    refine ⟨F1, S1, ρ, _, a1, q1, fun l H2 F2 S2 x2 s2 q2 => ?_⟩
    have a2 := a1.next x2 s2
    refine ⟨F2, S2, ρ, _, a2, q2, fun u H3 F3 S3 x3 s3 q3 => ?_⟩
    have x13 := (x1.trans x2).trans x3
    have r3 := RelD.mono x3.same _ _ (RelD.mono x2.same _ _ r1)
    unfold gSl at q3
    split at q3
    · rename_i t e
      refine .inl ⟨tS t, vw_str r3 e, by rw [tS_length]; exact q3.1, ?_⟩
      have ec : cutS (tS t) l u = tS (cutL t l u) := by
        unfold cutS cutL
        rw [tS_length]
      rw [ec]
      exact p.of x13 s3 (.str_i _) q3.2
    · rename_i ds e
      obtain ⟨b, vs, rfl, h1, h2⟩ := vw_lst s3 r3 e
      refine .inr (.inl ⟨b, vs, rfl, .of h1, fun z hz => ?_⟩)
      exact p.of (x13.trans (s3.ext_frz hz)) (s3.frz hz) (RelD.lst_i upd_same (RelDs.mono (s3.same_frz hz) _ _ (cutL_rel h2 _ _))) q3
    · rename_i ds e
      obtain ⟨b, vs, rfl, h1, h2⟩ := vw_tup s3 r3 e
      refine .inr (.inr ⟨b, vs, rfl, h1, by rw [h2.length]; exact q3.1, fun z hz => ?_⟩)
      exact p.of (x13.trans (s3.ext_frz hz)) (s3.frz hz) (RelD.tup_i (.of upd_same) (RelDs.mono (s3.same_frz hz) _ _ (cutL_rel h2 _ _))) q3.2
    · exact q3.elim
abbrev DCall := Store → List D → (D → Store → Prop) → Prop
def CL (K : PySem.W.Frag) (g : DCall) : List V → Hp → VK → Prop := fun xs H Q => ∃ F S ds Q', SR K F S H ∧ RelDs K F ds xs ∧ g S ds Q' ∧ Post K F S H Q' Q
theorem CallR.weak {f : Value} {r r' : List V → Hp → VK → Prop} (h : CallR X f r) (w : ∀ xs H Q, r' xs H Q → r xs H Q) : CallR X f r' := fun pins s σ H xs us Q I rx q => h pins s σ H xs us Q I rx (w _ _ _ q)
def tdCB (g : DCall) (t : TDs) : TD := fun ρ S Q => t ρ S fun ds S1 => g S1 ds Q
theorem cb_go {g : DCall} {σ : L2.St} {H : Hp} {Q : VK} (h : EL X.K F0 (tdCB g tr) σ H Q) : tCB (CL X.K g) (AL X.K F0 tr) σ H Q := by
  obtain ⟨F, S, ρ, Q', a, h, p⟩ := h
  exact AL.go a h fun v1 H1 F1 S1 d1 x1 a1 r1 q1 => ⟨F1, S1, d1, Q', a1.sr, r1, q1, p.ext x1⟩
theorem de_cB {x : Str} {id : String} {g : DCall} {p : Pos} (hc : CallR X (.builtin id) (CL X.K g)) (hg : Gl X x) (hm : X.mg x = none) (hv : bootBuiltins x = some (.builtin id)) (ha : DA X F0 (e :: es) tr) (hn : x ≠ "__name__" := by decide) (hdb : (x == ("__debug__" : Str)) = false := by decide)
    (he : starEach (e :: es) X.env = (false, eval e X.env) :: starEach es X.env := by rfl) (hpl : (backTo pos (starEach es X.env)).any (·.1) = false := by rfl) : DE X F0 (.Call (.Name x p) (e :: es) [] pos) (tdCB g tr) :=
  PE.weak (pe_callB hc hg hm hv ha hn hdb he hpl) fun _ _ _ h => cb_go h
theorem de_cT {x : Str} {T : String} {g : DCall} {p : Pos} (hc : CallR X (.type T) (CL X.K g)) (hg : Gl X x) (hm : X.mg x = none) (hv : bootBuiltins x = some (.type T)) (ha : DA X F0 (e :: es) tr) (hn : x ≠ "__name__" := by decide) (hdb : (x == ("__debug__" : Str)) = false := by decide)
    (he : starEach (e :: es) X.env = (false, eval e X.env) :: starEach es X.env := by rfl) (hpl : (backTo pos (starEach es X.env)).any (·.1) = false := by rfl) : DE X F0 (.Call (.Name x p) (e :: es) [] pos) (tdCB g tr) :=
  PE.weak (pe_callTy hc hg hm hv ha hn hdb he hpl) fun _ _ _ h => cb_go h
theorem rds1 {K : PySem.W.Frag} {F : Hp} {d : D} {vs : List V} (h : RelDs K F [d] vs) : ∃ v, vs = [v] ∧ RelD K F d v := by
  obtain ⟨v, r, rfl, h1, h2⟩ := h.cons_inv
  rw [h2.nil_inv]
  exact ⟨v, rfl, h1⟩
theorem rds2 {K : PySem.W.Frag} {F : Hp} {d d' : D} {vs : List V} (h : RelDs K F [d, d'] vs) : ∃ v w, vs = [v, w] ∧ RelD K F d v ∧ RelD K F d' w := by
  obtain ⟨v, r, rfl, h1, h2⟩ := h.cons_inv
  obtain ⟨w, rfl, h3⟩ := rds1 h2
  exact ⟨v, w, rfl, h1, h3⟩
/-- len -/
def gLen : DCall := fun S ds Q => match ds with
  | [x] => match vw S x with
    | .str t => t.length ≤ sizeLine ∧ Q (.int t.length) S
    | .lst ds => Q (.int ds.length) S
    | .tup ds => Q (.int ds.length) S
    | .scr ds => Q (.int ds.length) S
    | _ => False
  | _ => False
theorem oc_len : CallR X (.builtin "len") (CL X.K gLen) := CallR.weak call_len fun xs H Q ⟨F, S, ds, Q', sr, r, g, p⟩ => by
  unfold gLen at g
  split at g
  · rename_i x
    obtain ⟨v, rfl, rv⟩ := rds1 r
    split at g
    · rename_i t e
      refine ⟨v, t.length, rfl, ?_, p.of (Ext.refl _ _ _) sr (.int_i _) g.2⟩
      rw [vw_str rv e]
      exact ⟨by rw [tS_length]; exact g.1, (tS_length t).symm⟩
    · rename_i t e
      obtain ⟨a, vs, rfl, h1, h2⟩ := vw_lst sr rv e
      exact ⟨_, t.length, rfl, .inl ⟨vs, .of h1, h2.length.symm⟩, p.of (Ext.refl _ _ _) sr (.int_i _) g⟩
    · rename_i t e
      obtain ⟨a, vs, rfl, h1, h2⟩ := vw_tup sr rv e
      exact ⟨_, t.length, rfl, .inr ⟨vs, h1, h2.length.symm⟩, p.of (Ext.refl _ _ _) sr (.int_i _) g⟩
    · rename_i t e
      obtain ⟨a, rfl, h1⟩ := vw_scr sr rv e
      exact ⟨_, t.length, rfl, .inl ⟨_, h1, (List.length_map _).symm⟩, p.of (Ext.refl _ _ _) sr (.int_i _) g⟩
    · exact g.elim
  · exact g.elim
/-- int -/
def gInt : DCall := fun S ds Q => match ds with
  | [.int i] => Q (.int i) S
  | [.bl k] => Q (.int (if k then 1 else 0)) S
  | _ => False
theorem oc_int : CallR X (.type "int") (CL X.K gInt) := CallR.weak call_int1 fun xs H Q ⟨F, S, ds, Q', sr, r, g, p⟩ => by
  unfold gInt at g
  split at g
  · obtain ⟨v, rfl, rv⟩ := rds1 r
    exact .inl ⟨_, by rw [rv.int_e], p.of (Ext.refl _ _ _) sr (.int_i _) g⟩
  · obtain ⟨v, rfl, rv⟩ := rds1 r
    exact .inr ⟨_, by rw [rv.bl_e], p.of (Ext.refl _ _ _) sr (.int_i _) g⟩
  · exact g.elim
/-- list(..): a new list, as data -/
def gList : DCall := fun S ds Q => match ds with
  | [x] => match vw S x with
    | .lst ds => Q (.lst ds) S
    | .tup ds => Q (.lst ds) S
    | .scr ns => Q (.lst (ns.map D.int)) S
    | _ => False
  | _ => False
theorem oc_list : CallR X (.type "list") (CL X.K gList) := CallR.weak call_list_of fun xs H Q ⟨F, S, ds, Q', sr, r, g, p⟩ => by
  unfold gList at g
  split at g
  · rename_i x
    obtain ⟨v, rfl, rv⟩ := rds1 r
    split at g
    · rename_i t e
      obtain ⟨a, vs, rfl, h1, h2⟩ := vw_lst sr rv e
      exact ⟨a, vs, rfl, .inl (.of h1), fun l hl => p.of (sr.ext_frz hl) (sr.frz hl) (RelD.lst_i upd_same (RelDs.mono (sr.same_frz hl) _ _ h2)) g⟩
    · rename_i t e
      obtain ⟨a, vs, rfl, h1, h2⟩ := vw_tup sr rv e
      exact ⟨a, vs, rfl, .inr h1, fun l hl => p.of (sr.ext_frz hl) (sr.frz hl) (RelD.lst_i upd_same (RelDs.mono (sr.same_frz hl) _ _ h2)) g⟩
    · rename_i t e
      obtain ⟨a, rfl, h1⟩ := vw_scr sr rv e
      exact ⟨a, _, rfl, .inl h1, fun l hl => p.of (sr.ext_frz hl) (sr.frz hl) (RelD.lst_i upd_same (RelDs.ints t)) g⟩
    · exact g.elim
  · exact g.elim
/-- max of a list of ints -/
def intsD : List D → Option (List Int)
  | [] => some []
  | .int i :: ds => (intsD ds).map (i :: ·)
  | _ => none
theorem intsD_map : ∀ {ds : List D} {ns : List Int}, intsD ds = some ns → ds = ns.map D.int
  | [], ns, h => by cases h; rfl
  | .int i :: ds, ns, h => by
    unfold intsD at h
    cases q : intsD ds with
    | none => rw [q] at h; cases h
    | some ms => rw [q] at h; cases h; rw [intsD_map q]; rfl
  | .non :: ds, ns, h => by cases h
  | .bl _ :: ds, ns, h => by cases h
  | .str _ :: ds, ns, h => by cases h
  | .tup _ :: ds, ns, h => by cases h
  | .lst _ :: ds, ns, h => by cases h
  | .scr _ :: ds, ns, h => by cases h
  | .ref _ :: ds, ns, h => by cases h
  | .ty _ :: ds, ns, h => by cases h
theorem intsD_of (ns : List Int) : intsD (ns.map D.int) = some ns := by
  induction ns with
  | nil => rfl
  | cons n ns ih => show (intsD (ns.map D.int)).map (n :: ·) = _; rw [ih]; rfl
theorem ints_rel {K : PySem.W.Frag} {F : Hp} : ∀ {ns : List Int} {vs : List V}, RelDs K F (ns.map D.int) vs → vs = ns.map V.int
  | [], _, h => h.nil_inv
  | n :: ns, _, h => by
    obtain ⟨v, r, rfl, h1, h2⟩ := h.cons_inv
    rw [h1.int_e, ints_rel h2]; rfl
def maxL : List Int → Int
  | [] => 0
  | [n] => n
  | n :: m :: ns => max n (maxL (m :: ns))
theorem maxL_mem : ∀ (n : Int) (ns : List Int), maxL (n :: ns) ∈ n :: ns ∧ ∀ y ∈ n :: ns, y ≤ maxL (n :: ns)
  | n, [] => ⟨by simp [maxL], fun y hy => by simp at hy; subst hy; simp [maxL]⟩
  | n, m :: ns => by
    obtain ⟨h1, h2⟩ := maxL_mem m ns
    have e : maxL (n :: m :: ns) = max n (maxL (m :: ns)) := rfl
    constructor
    · rw [e]
      by_cases h : n ≤ maxL (m :: ns)
      · rw [Int.max_eq_right h]; exact List.mem_cons_of_mem _ h1
      · rw [Int.max_eq_left (by omega)]; exact List.mem_cons_self
    · intro y hy
      rw [e]
      rcases List.mem_cons.mp hy with rfl | hy
      · exact Int.le_max_left _ _
      · exact Int.le_trans (h2 y hy) (Int.le_max_right _ _)
theorem maxL_unique {ns : List Int} {m : Int} (h : m ∈ ns) (g : ∀ y ∈ ns, y ≤ m) : maxL ns = m := by
  cases ns with
  | nil => cases h
  | cons n ns =>
    obtain ⟨h1, h2⟩ := maxL_mem n ns
    have := h2 m h
    have := g _ h1
    omega
def gMax : DCall := fun S ds Q => match ds with
  | [x] => match vw S x with
    | .lst ds => ∃ ns, intsD ds = some ns ∧ 0 < ns.length ∧ Q (.int (maxL ns)) S
    | _ => False
  | _ => False
theorem oc_max (hc : X.calm = true) : CallR X (.builtin "max") (CL X.K gMax) := CallR.weak (cr_max hc) fun xs H Q ⟨F, S, ds, Q', sr, r, g, p⟩ => by
  unfold gMax at g
  split at g
  · obtain ⟨v, rfl, rv⟩ := rds1 r
    split at g
    · rename_i t e
      obtain ⟨ns, h0, hn, g⟩ := g
      obtain ⟨a, vs, rfl, h1, h2⟩ := vw_lst sr rv e
      rw [intsD_map h0] at h2
      rw [ints_rel h2] at h1
      refine ⟨a, ns, rfl, .of h1, hn, fun m hm hle => ?_⟩
      rw [← maxL_unique hm hle]
      exact p.of (Ext.refl _ _ _) sr (.int_i _) g
    · exact g.elim
  · exact g.elim
/-- isinstance with a built-in class -/
def tyD : D → Option String
  | .non => some "NoneType" | .bl _ => some "bool" | .int _ => some "int" | .str _ => some "str" | .tup _ => some "tuple" | .lst _ => some "list" | .scr _ => some "list"
  | _ => none
def gIsi : DCall := fun S ds Q => match ds with
  | [x, .ty T] => ∃ U b, tyD (vw S x) = some U ∧ kitB U T = some b ∧ Q (.bl b) S
  | _ => False
theorem vw_ty {K : PySem.W.Frag} {F : Hp} {S : Store} {H : Hp} {d : D} {v : V} {U : String} (sr : SR K F S H) (r : RelD K F d v) (h : tyD (vw S d) = some U) : TyX K H v (.type U) := by
  cases e : vw S d with
  | non => rw [e] at h; cases h; rw [vw_non r e]; exact .base .non
  | bl b => rw [e] at h; cases h; rw [vw_bl r e]; exact .base (.bl _)
  | int i => rw [e] at h; cases h; rw [vw_int r e]; exact .base (.int _)
  | str t => rw [e] at h; cases h; rw [vw_str r e]; exact .base (.str _)
  | lst ds => rw [e] at h; cases h; obtain ⟨a, vs, rfl, h1, _⟩ := vw_lst sr r e; exact .base (.lst h1)
  | tup ds =>
    rw [e] at h; cases h
    obtain ⟨a, vs, rfl, h1, _⟩ := vw_tup sr r e
    rcases h1 with (h1 | ⟨o, h1⟩) | ⟨o, its, n, h1, h2, _⟩
    · exact .base (.tup h1)
    · exact .fTuple h1
    · exact .kTuple h1 h2
  | scr ns =>
    rw [e] at h; cases h
    obtain ⟨a, rfl, h1⟩ := vw_scr sr r e
    rcases h1 with (h1 | ⟨o, h1⟩) | ⟨o, its, n, h1, h2, _⟩
    · exact .base (.lst h1)
    · exact .base (.frz h1)
    · exact .kList h1 h2
  | ref a => rw [e] at h; cases h
  | ty n => rw [e] at h; cases h
  | dct _ _ => rw [e] at h; cases h
theorem oc_isi : CallR X (.builtin "isinstance") (CL X.K gIsi) := CallR.weak call_isi fun xs H Q ⟨F, S, ds, Q', sr, r, g, p⟩ => by
  unfold gIsi at g
  split at g
  · rename_i x T
    obtain ⟨U, b, h1, h2, g⟩ := g
    obtain ⟨v, w, rfl, rv, rw'⟩ := rds2 r
    exact ⟨v, w, .type U, .type T, b, rfl, by rw [rw'.ty_e]; exact .ty T, vw_ty sr rv h1, kit_ty h2, p.of (Ext.refl _ _ _) sr (.bl_i _) g⟩
  · exact g.elim
/-- str(n) -/
def gStr : DCall := fun S ds Q => match ds with
  | [.int i] => i.natAbs.log2 < 1920 ∧ Q (.str (tx (toString i))) S
  | _ => False
theorem oc_str : CallR X (.type "str") (CL X.K gStr) := CallR.weak call_str_int fun xs H Q ⟨F, S, ds, Q', sr, r, g, p⟩ => by
  unfold gStr at g
  split at g
  · rename_i i
    obtain ⟨v, rfl, rv⟩ := rds1 r
    refine ⟨i, by rw [rv.int_e], g.1, ?_⟩
    have e : ((toString i : String) : Str) = tS (tx (toString i)) := ofString_tx _
    exact p.of (Ext.refl _ _ _) sr (by show RelD _ _ _ (V.str ((toString i : String) : Str)); rw [e]; exact .str_i _) g.2
  · exact g.elim
def tdApp (to te : TD) : TD := fun ρ S Q => to ρ S fun x S1 => (∃ a ds, x = .ref a ∧ S1 a = some (.lst ds)) ∧ te ρ S1 fun y S2 => ∃ a ds, x = .ref a ∧ S2 a = some (.lst ds) ∧ ds.length < sizeLine ∧ Q .non (sup S2 a (.lst (ds ++ [y])))
theorem de_app {apos cpos : Pos} (ho : DE X F0 a ta) (he : DE X F0 e t)
    (hbase : attributeBase a "append" X.env (eval a X.env) = eval a X.env := by rfl)
    (hfew : ((backTo cpos (starEach [e] X.env)).all (fun x => !x.1) && (backToKw cpos (keywordEach [] X.env)).all (fun x => x.1.isSome)
      && decide ([e].length + ([] : List Keyword).length + (if ([] : List Keyword).isEmpty then 0 else 1) < 30)) = true := by rfl)
    (hline : (apos.endLine == cpos.line) = true := by rfl) (hs : starEach [e] X.env = (false, eval e X.env) :: starEach [] X.env := by rfl) :
    DE X F0 (.Call (.Attribute a "append" apos) [e] [] cpos) (tdApp ta t) :=
  PE.weak (pe_bm PySem.F.plainAttrs_list PySem.F.slot_list_append PySem.F.type_list_append mt_append ho (da_cons he da_nil hs) hbase hfew hline hs rfl) fun σ H Q ⟨F, S, ρ, Q', at0, h, p⟩ => by
    refine EL.go at0 h fun v H1 F1 S1 d x1 a1 r1 ⟨⟨b, ds, e1, e2⟩, q1⟩ => ?_
    subst e1
    obtain ⟨vs, h1, h2⟩ := a1.sr.lst e2
    rw [r1.ref_e]
    refine ⟨.inl ⟨rfl, vs, .of h1⟩, ?_⟩
    refine AL.go (Q1 := fun ds S2 => ∃ y, ds = [y] ∧ ∃ a ds, D.ref b = .ref a ∧ S2 a = some (.lst ds) ∧ ds.length < sizeLine ∧ Q' .non (sup S2 a (.lst (ds ++ [y])))) a1 ?_ fun ws H2 F2 S2 ys x2 a2 r2 q2 => ?_
    · show t ρ S1 fun y S2 => _
      have : (fun (y : D) (S2 : Store) => ∃ a ds, D.ref b = .ref a ∧ S2 a = some (.lst ds) ∧ ds.length < sizeLine ∧ Q' .non (sup S2 a (.lst (ds ++ [y])))) = fun y S2 => tdNil ρ S2 fun xs S3 => ∃ z, y :: xs = [z] ∧ ∃ a ds, D.ref b = .ref a ∧ S3 a = some (.lst ds) ∧ ds.length < sizeLine ∧ Q' .non (sup S3 a (.lst (ds ++ [z]))) := by
        funext y S2
        refine propext ⟨fun h => ⟨y, rfl, h⟩, fun ⟨z, hz, h⟩ => ?_⟩
        cases hz
        exact h
      rw [← this]
      exact q1
    · obtain ⟨y, rfl, a', es, e3, e4, hl, q3⟩ := q2
      cases e3
      obtain ⟨w, rfl, rw'⟩ := rds1 r2
      obtain ⟨us, k1, k2⟩ := a2.sr.lst e4
      refine ⟨b, us, w, rfl, rfl, k1, by rw [k2.length]; exact hl, ?_⟩
      exact p.of ((x1.trans x2).trans (a2.sr.ext_write e4)) (a2.sr.write (o := .lst _) e4 ⟨_, rfl, k2.append (.cons rw' .nil)⟩) .non_i q3
/-- sep.join(a list of texts) -/
def txsD : List D → Option (List Tx)
  | [] => some []
  | .str i :: ds => (txsD ds).map (i :: ·)
  | _ => none
theorem txsD_map : ∀ {ds : List D} {ns : List Tx}, txsD ds = some ns → ds = ns.map D.str
  | [], ns, h => by cases h; rfl
  | .str i :: ds, ns, h => by
    unfold txsD at h
    cases q : txsD ds with
    | none => rw [q] at h; cases h
    | some ms => rw [q] at h; cases h; rw [txsD_map q]; rfl
  | .non :: ds, ns, h => by cases h
  | .bl _ :: ds, ns, h => by cases h
  | .int _ :: ds, ns, h => by cases h
  | .tup _ :: ds, ns, h => by cases h
  | .lst _ :: ds, ns, h => by cases h
  | .scr _ :: ds, ns, h => by cases h
  | .ref _ :: ds, ns, h => by cases h
  | .ty _ :: ds, ns, h => by cases h
theorem txsD_of (ns : List Tx) : txsD (ns.map D.str) = some ns := by
  induction ns with
  | nil => rfl
  | cons n ns ih => show (txsD (ns.map D.str)).map (n :: ·) = _; rw [ih]; rfl
theorem txs_rel {K : PySem.W.Frag} {F : Hp} : ∀ {ns : List Tx} {vs : List V}, RelDs K F (ns.map D.str) vs → vs = (ns.map tS).map V.str
  | [], _, h => h.nil_inv
  | n :: ns, _, h => by
    obtain ⟨v, r, rfl, h1, h2⟩ := h.cons_inv
    rw [h1.str_e, txs_rel h2]; rfl
def joinT (s : Tx) : List Tx → Tx
  | [] => []
  | [t] => t
  | t :: u :: ts => t ++ s ++ joinT s (u :: ts)
def gJoin (S : Store) (x y : D) (Q : D → Store → Prop) : Prop := match x, vw S y with
  | .str s, .lst ds => ∃ ts, txsD ds = some ts ∧ (ts.map (·.length)).sum + ts.length * s.length ≤ 16777216 ∧ Q (.str (joinT s ts)) S
  | _, _ => False
end
end DL
namespace DL
open PySem PySem.Spec L2
theorem join_glued (s : Tx) : ∀ ts : List Tx, Str.join (tS s) (ts.map tS) = tS (joinT s ts)
  | [] => rfl
  | [t] => rfl
  | t :: u :: ts => by
    have ih := join_glued s (u :: ts)
    show tS t ++ tS s ++ Str.join (tS s) ((u :: ts).map tS) = _
    rw [ih, tS_append, tS_append]; rfl
section
variable {X : Cx} {F0 : Ent} {e a b c lo hi : Expr} {es : List Expr} {t ta tb tv : TD} {tr : TDs} {pos pos' p2 : Pos}
def tdJoin (ta tb : TD) : TD := fun ρ S Q => ta ρ S fun x S1 => (∃ s, x = .str s) ∧ tb ρ S1 fun y S2 => gJoin S2 x y Q
theorem de_join {apos : Pos} (ho : DE X F0 a ta) (he : DE X F0 e tb)
    (hs : starEach [e] X.env = [(false, eval e X.env)] := by rfl) (hbase : attributeBase a "join" X.env (eval a X.env) = eval a X.env := by rfl) (hline : (apos.endLine == pos.line) = true := by rfl) :
    DE X F0 (.Call (.Attribute a "join" apos) [e] [] pos) (tdJoin ta tb) :=
  PE.weak (pe_join ho he hs hbase hline) fun σ H Q ⟨F, S, ρ, Q', at0, h, p⟩ => by
    refine EL.go at0 h fun v H1 F1 S1 d x1 a1 r1 ⟨⟨s, e1⟩, q1⟩ => ?_
    subst e1
    refine ⟨⟨_, r1.str_e⟩, ?_⟩
    refine EL.go a1 q1 fun v2 H2 F2 S2 d2 x2 a2 r2 q2 => ?_
    unfold gJoin at q2
    split at q2
    · rename_i s' ds e1 e2
      cases e1
      obtain ⟨ts, h1, h2, q2⟩ := q2
      obtain ⟨b, vs, rfl, k1, k2⟩ := vw_lst a2.sr r2 e2
      rw [txsD_map h1] at k2
      rw [txs_rel k2] at k1
      refine ⟨tS s, b, ts.map tS, r1.str_e, rfl, .inl (.of k1), ?_, ?_⟩
      · rw [List.map_map, List.length_map, tS_length]
        rw [show (List.map ((fun x => x.length) ∘ tS) ts) = ts.map (·.length) from List.map_congr_left fun x _ => tS_length x]
        exact h2
      · show Q (.str (Builtin.Str.glued (tS s) (ts.map tS))) H2
        rw [StrLaws.glued_eq_join, join_glued]
        exact p.of (x1.trans x2) a2.sr (.str_i _) q2
    · exact q2.elim
def tdFld (ta : TD) (f : Str) : TD := fun ρ S Q => ta ρ S fun x S1 => ∃ a C fs d, x = .ref a ∧ S1 a = some (.ins C fs) ∧ fs.lookup f = some d ∧ Q d S1
/-- classes whose attributes are plain, and the names that they don't bind -/
structure Plain (K : PySem.W.Frag) (f : Str) (C : Addr) : Prop where
  cl : Cls K C
  no : NoAttr K C f
def tdFldC (K : PySem.W.Frag) (ta : TD) (f : Str) : TD := fun ρ S Q => ta ρ S fun x S1 => ∃ a C fs d, x = .ref a ∧ S1 a = some (.ins C fs) ∧ Plain K f C ∧ fs.lookup f = some d ∧ Q d S1
theorem de_fld {f : Str} (he : DE X F0 e t) (hb : attributeBase e f X.env (eval e X.env) = eval e X.env := by rfl) : DE X F0 (.Attribute e f pos) (tdFldC X.K t f) :=
  PE.weak (pe_fld he hb) fun σ H Q ⟨F, S, ρ, Q', at0, h, p⟩ => by
    refine EL.go at0 h fun v H1 F1 S1 d x1 a1 r1 ⟨b, C, fs, d', e1, e2, pl, l, q1⟩ => ?_
    subst e1
    obtain ⟨dx, ws, h1, h2⟩ := a1.sr.ins e2
    obtain ⟨w, l1, l2⟩ := h2.lookup l
    exact ⟨b, C, dx, ws, w, r1.ref_e, h1, pl.cl, pl.no, l1, p.of x1 a1.sr l2 q1⟩
def SPost (K : PySem.W.Frag) (F : Hp) (S : Store) (H : Hp) (D' : DEnds) (D : Ends) : Prop :=
  (∀ σ' H' F' S' ρ', Ext F S H F' S' H' → SR K F' S' H' → RelE K F' ρ' σ' → D'.nx ρ' S' → D.nx σ' H') ∧
  (∀ v H' F' S' d, Ext F S H F' S' H' → SR K F' S' H' → RelD K F' d v → D'.rt d S' → D.rt v H') ∧
  (∀ σ' H' F' S' ρ', Ext F S H F' S' H' → SR K F' S' H' → RelE K F' ρ' σ' → D'.bk ρ' S' → D.bk σ' H') ∧
  (∀ σ' H' F' S' ρ', Ext F S H F' S' H' → SR K F' S' H' → RelE K F' ρ' σ' → D'.ct ρ' S' → D.ct σ' H')
theorem SPost.ext {K : PySem.W.Frag} {F F1 : Hp} {S S1 : Store} {H H1 : Hp} {D' : DEnds} {D : Ends} (p : SPost K F S H D' D) (x : Ext F S H F1 S1 H1) : SPost K F1 S1 H1 D' D :=
  ⟨fun _ _ _ _ _ y => p.1 _ _ _ _ _ (x.trans y), fun _ _ _ _ _ y => p.2.1 _ _ _ _ _ (x.trans y), fun _ _ _ _ _ y => p.2.2.1 _ _ _ _ _ (x.trans y), fun _ _ _ _ _ y => p.2.2.2 _ _ _ _ _ (x.trans y)⟩
def SL (K : PySem.W.Frag) (F0 : Ent) (t : TDS) : TS := fun D σ H => ∃ F S ρ D', At K F0 F S H ρ σ ∧ t D' ρ S ∧ SPost K F S H D' D
def DS (X : Cx) (F0 : Ent) (st : Stmt) (t : TDS) : Prop := PS X st (SL X.K F0 t)
def DSs (X : Cx) (F0 : Ent) (st : List Stmt) (t : TDS) : Prop := PSs X st (SL X.K F0 t)
variable {st : Stmt} {rest : List Stmt} {u v : TDS}
theorem SPost.nx {K : PySem.W.Frag} {F : Hp} {S : Store} {H : Hp} {D' : DEnds} {D : Ends} (p : SPost K F S H D' D) {F0 : Ent} {F1 : Hp} {S1 : Store} {H1 : Hp} {ρ : Rho} {σ : L2.St} (x : Ext F S H F1 S1 H1) (a : At K F0 F1 S1 H1 ρ σ) (q : D'.nx ρ S1) : D.nx σ H1 := p.1 _ _ _ _ _ x a.sr a.env q
def tdNext : TDS := fun D ρ S => D.nx ρ S
def tdSeq (t u : TDS) : TDS := fun D ρ S => t { D with nx := u D } ρ S
theorem dss_nil : DSs X F0 [] tdNext := PSs.weak pss_nil fun D σ H ⟨F, S, ρ, D', a, h, p⟩ => p.nx (Ext.refl _ _ _) a h
theorem dss_cons (h1 : DS X F0 st u) (h2 : DSs X F0 rest v) : DSs X F0 (st :: rest) (tdSeq u v) :=
  PSs.weak (pss_cons h1 h2) fun D σ H ⟨F, S, ρ, D', a, h, p⟩ =>
    ⟨F, S, ρ, _, a, h, fun σ' H' F' S' ρ' x r ev q => ⟨F', S', ρ', D', ⟨a.f0.trans x, r, ev⟩, q, p.ext x⟩, p.2.1, p.2.2.1, p.2.2.2⟩
theorem dss_one (h1 : DS X F0 st u) : DSs X F0 [st] u := pss_one h1
theorem dss_never : DSs X F0 rest fun _ _ _ => False := PSs.weak pss_never fun D σ H ⟨F, S, ρ, D', a, h, p⟩ => h.elim
def tdBreak : TDS := fun D ρ S => D.bk ρ S
def tdCont : TDS := fun D ρ S => D.ct ρ S
theorem ds_pass : DS X F0 (.Pass pos) tdNext := PS.weak ps_pass fun D σ H ⟨F, S, ρ, D', a, h, p⟩ => p.nx (Ext.refl _ _ _) a h
theorem ds_break : DS X F0 (.Break pos) tdBreak := PS.weak ps_break fun D σ H ⟨F, S, ρ, D', a, h, p⟩ => p.2.2.1 _ _ _ _ _ (Ext.refl _ _ _) a.sr a.env h
theorem ds_cont : DS X F0 (.Continue pos) tdCont := PS.weak ps_continue fun D σ H ⟨F, S, ρ, D', a, h, p⟩ => p.2.2.2 _ _ _ _ _ (Ext.refl _ _ _) a.sr a.env h
def tdDrop (t : TD) : TDS := fun D ρ S => t ρ S fun _ S1 => D.nx ρ S1
theorem ds_expr (he : DE X F0 e t) (hs : swapsWith e none pos.line X.env = pure false := by rfl) : DS X F0 (.Expr e pos) (tdDrop t) :=
  PS.weak (ps_expr he hs) fun D σ H ⟨F, S, ρ, D', a, h, p⟩ => EL.go a h fun v H1 F1 S1 d x1 a1 r1 q1 => p.nx x1 a1 q1
def tdRet (t : TD) : TDS := fun D ρ S => t ρ S D.rt
theorem ds_ret (he : DE X F0 e t) : DS X F0 (.Return (some e) pos) (tdRet t) :=
  PS.weak (ps_ret he) fun D σ H ⟨F, S, ρ, D', a, h, p⟩ => EL.go a h fun v H1 F1 S1 d x1 a1 r1 q1 => p.2.1 _ _ _ _ _ x1 a1.sr r1 q1
def tdRetN : TDS := fun D _ S => D.rt .non S
theorem ds_retN : DS X F0 (.Return none pos) tdRetN :=
  PS.weak ps_retN fun D σ H ⟨F, S, ρ, D', a, h, p⟩ => p.2.1 _ _ _ _ _ (Ext.refl _ _ _) a.sr .non_i h
def tdIfS (c : TDT) (t u : TDS) : TDS := fun D ρ S => c ρ S fun b S1 => if b = true then t D ρ S1 else u D ρ S1
theorem ds_if {c : Expr} {A B : List Stmt} {tc : TDT} (hc : DT X F0 c tc) (ha : DSs X F0 A u) (hb : DSs X F0 B v) : DS X F0 (.If c A B pos) (tdIfS tc u v) :=
  PS.weak (ps_if hc ha hb) fun D σ H ⟨F, S, ρ, D', a, h, p⟩ => by
    refine TL.go a h fun c H1 F1 S1 x1 a1 q1 => ?_
    cases c with
    | true => exact iteT ⟨F1, S1, ρ, D', a1, q1, p.ext x1⟩
    | false => exact iteF ⟨F1, S1, ρ, D', a1, q1, p.ext x1⟩
abbrev TDG := D → Rho → Store → (Rho → Store → Prop) → Prop
abbrev TDGs := List D → Rho → Store → (Rho → Store → Prop) → Prop
def GL (K : PySem.W.Frag) (F0 : Ent) (g : TDG) : TG := fun v σ H Q => ∃ F S ρ d Q', At K F0 F S H ρ σ ∧ RelD K F d v ∧ g d ρ S Q' ∧ ∀ σ' H' F' S' ρ', Ext F S H F' S' H' → SR K F' S' H' → RelE K F' ρ' σ' → Q' ρ' S' → Q σ' H'
def GLs (K : PySem.W.Frag) (F0 : Ent) (g : TDGs) : TGs := fun v σ H Q => ∃ F S ρ d Q', At K F0 F S H ρ σ ∧ RelDs K F d v ∧ g d ρ S Q' ∧ ∀ σ' H' F' S' ρ', Ext F S H F' S' H' → SR K F' S' H' → RelE K F' ρ' σ' → Q' ρ' S' → Q σ' H'
def DG (X : Cx) (F0 : Ent) (tg : Expr) (g : TDG) : Prop := PG X tg (GL X.K F0 g)
def DGs (X : Cx) (F0 : Ent) (tg : List Expr) (g : TDGs) : Prop := PGs X tg (GLs X.K F0 g)
theorem PG.weak {tg : Expr} {g g' : TG} (h : PG X tg g) (w : ∀ v σ H Q, g' v σ H Q → g v σ H Q) : PG X tg g' := ⟨fun pins s σ H v u Q I r q => h.run pins s σ H v u Q I r (w _ _ _ _ q)⟩
theorem PGs.weak {tg : List Expr} {g g' : TGs} (h : PGs X tg g) (w : ∀ v σ H Q, g' v σ H Q → g v σ H Q) : PGs X tg g' := ⟨fun pins s σ H v u Q I r q => h.run pins s σ H v u Q I r (w _ _ _ _ q)⟩
def gdName (i : Nat) : TDG := fun d ρ S Q => Q (ρ.set i (some d)) S
theorem dg_name (i : Nat) {x : Str} (hN : X.N.Nodup) (hi : X.N[i]? = some x := by rfl) (hx : Loc X.env.scope x := by first | exact Or.inl rfl | exact Or.inr rfl) (hf : X.fn x = true ∨ X.env.scope.names.lookup x = some .local := by first | exact .inl rfl | exact .inr rfl | assumption) : DG X F0 (.Name x pos) (gdName i) :=
  PG.weak (pg_name (i := i) hN hi hx hf) fun v σ H Q ⟨F, S, ρ, d, Q', a, r, g, p⟩ => p _ _ _ _ _ (Ext.refl _ _ _) a.sr (a.env.set r i) g
def gdNil : TDGs := fun ds ρ S Q => ds = [] ∧ Q ρ S
def gdCons (g : TDG) (gs : TDGs) : TDGs := fun ds ρ S Q => ∃ d r, ds = d :: r ∧ g d ρ S fun ρ1 S1 => gs r ρ1 S1 Q
theorem dgs_nil : DGs X F0 [] gdNil := PGs.weak pgs_nil fun v σ H Q ⟨F, S, ρ, d, Q', a, r, ⟨g1, g2⟩, p⟩ => by
  subst g1
  exact ⟨r.nil_inv, p _ _ _ _ _ (Ext.refl _ _ _) a.sr a.env g2⟩
theorem dgs_cons {g : TDG} {gs : TDGs} (h1 : DG X F0 e g) (h2 : DGs X F0 es gs) (hs : (assignEach (e :: es) X.env).map (·.2) = assign e X.env :: (assignEach es X.env).map (·.2) := by rfl) : DGs X F0 (e :: es) (gdCons g gs) :=
  PGs.weak (pgs_cons h1 h2 hs) fun v σ H Q ⟨F, S, ρ, ds, Q', a, r, ⟨d, dr, g1, g2⟩, p⟩ => by
    subst g1
    obtain ⟨w, ws, rfl, k1, k2⟩ := r.cons_inv
    refine ⟨w, ws, rfl, F, S, ρ, d, _, a, k1, g2, fun σ' H' F' S' ρ' x sr ev q => ?_⟩
    exact ⟨F', S', ρ', dr, Q', ⟨a.f0.trans x, sr, ev⟩, RelDs.mono x.same _ _ k2, q, fun σ2 H2 F2 S2 ρ2 y => p _ _ _ _ _ (x.trans y)⟩
def gdTup (n : Nat) (gs : TDGs) : TDG := fun d ρ S Q => ∃ ds, d = .tup ds ∧ ds.length = n ∧ gs ds ρ S Q
theorem dg_tup {k : Nat} {gs : TDGs} {n : Nat} (hc : X.calm = true) (h : DGs X F0 es gs) (hn : (assignEach es X.env).length = n := by rfl) (hst : (assignEach es X.env).findIdx? (·.1) = none := by rfl) : DG X F0 (.Tuple es k pos) (gdTup n gs) :=
  PG.weak (pg_tup hc h hn hst) fun v σ H Q ⟨F, S, ρ, d, Q', a, r, ⟨ds, g1, g2, g3⟩, p⟩ => by
    subst g1
    obtain ⟨b, vs, rfl, k1, k2⟩ := r.tup_e
    exact ⟨b, vs, rfl, seqT a.sr.fro k1, by rw [k2.length]; exact g2, F, S, ρ, ds, Q', a, k2, g3, p⟩
def tdAsg (t : TD) (g : TDG) : TDS := fun D ρ S => t ρ S fun x S1 => g x ρ S1 D.nx
theorem ds_asg {tg : Expr} {g : TDG} (he : DE X F0 e t) (hg : DG X F0 tg g) (hs : swapsWithSole [tg] e pos.line X.env = pure false := by rfl) (hw : swappedStores [tg] e X.env = pure none := by rfl)
    (h1 : (assignEach [tg] X.env).map (·.2) = [assign tg X.env] := by rfl) : DS X F0 (.Assign [tg] e pos) (tdAsg t g) :=
  PS.weak (ps_asg he hg hs hw h1) fun D σ H ⟨F, S, ρ, D', a, h, p⟩ => EL.go a h fun v H1 F1 S1 d x1 a1 r1 q1 =>
    ⟨F1, S1, ρ, d, _, a1, r1, q1, fun σ' H' F' S' ρ' y sr ev q => p.1 _ _ _ _ _ (x1.trans y) sr ev q⟩
theorem ds_set (i : Nat) {x : Str} (hN : X.N.Nodup) (he : DE X F0 e t) (hi : X.N[i]? = some x := by rfl) (hx : Loc X.env.scope x := by first | exact Or.inl rfl | exact Or.inr rfl) (hs : swapsWith e (some (.Name x pos')) pos.line X.env = pure false := by rfl) (hf : X.fn x = true ∨ X.env.scope.names.lookup x = some .local := by first | exact .inl rfl | exact .inr rfl | assumption) :
    DS X F0 (.Assign [.Name x pos'] e pos) (tdAsg t (gdName i)) :=
  PS.weak (ps_set (i := i) hN hi hx he hs hf) fun D σ H ⟨F, S, ρ, D', a, h, p⟩ => EL.go a h fun v H1 F1 S1 d x1 a1 r1 q1 => p.1 _ _ _ _ _ x1 a1.sr (a1.env.set r1 i) q1
/-- name op= e -/
def tdAug (i : Nat) (t : TD) (g : DOp) : TDS := fun D ρ S => ∃ x, ρ[i]? = some (some x) ∧ t ρ S fun y S1 => g S1 x y fun z S2 => D.nx (ρ.set i (some z)) S2
def DIp (X : Cx) (op : Operator) (g : DOp) : Prop := PIp X op (OL X.K g)
theorem PIp.weak {op : Operator} {r r' : TIp} (h : PIp X op r) (w : ∀ x y H Q, r' x y H Q → r x y H Q) : PIp X op r' := fun pins s σ H x y v u Q I r1 r2 q => h pins s σ H x y v u Q I r1 r2 (w _ _ _ _ q)
theorem dip_add : DIp X .Add (gI0 fun i j => .int (i + j)) := PIp.weak ip_add fun x y H Q ⟨F, S, dx, dy, Q', sr, rx, ry, q, p⟩ => by
  unfold gI0 at q
  split at q
  · exact ⟨_, _, rx.int_e, ry.int_e, p.of (Ext.refl _ _ _) sr (.int_i _) q⟩
  · exact q.elim
theorem dip_sub : DIp X .Sub (gI0 fun i j => .int (i - j)) := PIp.weak ip_sub fun x y H Q ⟨F, S, dx, dy, Q', sr, rx, ry, q, p⟩ => by
  unfold gI0 at q
  split at q
  · exact ⟨_, _, rx.int_e, ry.int_e, p.of (Ext.refl _ _ _) sr (.int_i _) q⟩
  · exact q.elim
theorem ds_aug (i : Nat) {x : Str} {op : Operator} {g : DOp} (hN : X.N.Nodup) (he : DE X F0 e t) (ho : DIp X op g) (hi : X.N[i]? = some x := by rfl) (hx : Loc X.env.scope x := by first | exact Or.inl rfl | exact Or.inr rfl) (hf : X.fn x = true ∨ X.env.scope.names.lookup x = some .local := by first | exact .inl rfl | exact .inr rfl | assumption) :
    DS X F0 (.AugAssign (.Name x pos') op e pos) (tdAug i t g) :=
  PS.weak (ps_aug (i := i) hN hi hx he ho hf) fun D σ H ⟨F, S, ρ, D', a, ⟨d0, e0, h⟩, p⟩ => by
    obtain ⟨v0, h1, h2⟩ := a.env.2 i d0 e0
    refine ⟨v0, h1, EL.go a h fun v H1 F1 S1 d x1 a1 r1 q1 => ?_⟩
    exact ⟨F1, S1, d0, d, _, a1.sr, RelD.mono x1.same _ _ h2, r1, q1, fun w H2 F2 S2 d2 x2 sr rd q => p.1 _ _ _ _ _ (x1.trans x2) sr ((a1.next x2 sr).env.set rd i) q⟩
/-- o.f = e -/
def putFD (f : Str) (d : D) : List (Str × D) → List (Str × D)
  | [] => [(f, d)]
  | (g, x) :: r => if g = f then (g, d) :: r else (g, x) :: putFD f d r
theorem putFD_rel {K : PySem.W.Frag} {F : Hp} {f : Str} {d : D} {v : V} (r : RelD K F d v) : ∀ {fs : List (Str × D)} {ws : List (Str × V)}, RelF K F fs ws → RelF K F (putFD f d fs) (putF f v ws)
  | [], _, h => by rw [show _ = _ from h]; exact ⟨v, [], rfl, r, rfl⟩
  | (g, x) :: fs, _, h => by
    obtain ⟨w, ws, rfl, h1, h2⟩ := h
    unfold putFD putF
    by_cases e : g = f
    · rw [if_pos e, if_pos e]; exact ⟨v, ws, rfl, r, h2⟩
    · rw [if_neg e, if_neg e]; exact ⟨w, _, rfl, h1, putFD_rel r h2⟩
def tdPutF (K : PySem.W.Frag) (to te : TD) (f : Str) : TDS := fun D ρ S => te ρ S fun y S1 => to ρ S1 fun x S2 => ∃ a C fs, x = .ref a ∧ S2 a = some (.ins C fs) ∧ Plain K f C ∧ fs.length < 1000 ∧ D.nx ρ (sup S2 a (.ins C (putFD f y fs)))
theorem ds_putF {o : Expr} {f : Str} {to : TD} (ho : DE X F0 o to) (he : DE X F0 e t) (hs : swapsWith e (some (.Attribute o f pos')) pos.line X.env = pure false := by rfl) : DS X F0 (.Assign [.Attribute o f pos'] e pos) (tdPutF X.K to t f) :=
  PS.weak (ps_fld ho he hs) fun D σ H ⟨F, S, ρ, D', a, h, p⟩ => EL.go a h fun v H1 F1 S1 d x1 a1 r1 q1 => EL.go a1 q1 fun v2 H2 F2 S2 d2 x2 a2 r2 ⟨b, C, fs, e1, e2, pl, hl, q⟩ => by
    subst e1
    obtain ⟨dx, ws, h1, h2⟩ := a2.sr.ins e2
    refine ⟨b, C, dx, ws, r2.ref_e, h1, pl.cl, pl.no, by rw [h2.length]; exact hl, ?_⟩
    exact p.1 _ _ _ _ _ ((x1.trans x2).trans (a2.sr.ext_write e2)) (a2.sr.write (o := .ins C (putFD f d fs)) e2 ⟨dx, _, rfl, putFD_rel (RelD.mono x2.same _ _ r1) h2⟩) a2.env q
/-- o.f += e -/
def tdAugF (K : PySem.W.Frag) (to te : TD) (f : Str) (g : Int → Int → Int) : TDS := fun D ρ S => to ρ S fun x S1 => ∃ a C fs i, x = .ref a ∧ S1 a = some (.ins C fs) ∧ Plain K f C ∧ fs.lookup f = some (.int i) ∧
  te ρ S1 fun y S2 => ∃ j fs', y = .int j ∧ S2 a = some (.ins C fs') ∧ fs'.length < 1000 ∧ D.nx ρ (sup S2 a (.ins C (putFD f (.int (g i j)) fs')))
theorem ds_augF {o : Expr} {f : Str} {to : TD} {op : Operator} {g : Int → Int → Int} {rd : V → V → Hp → VK → Prop} (ho : DE X F0 o to) (he : DE X F0 e t) (hop : InOp X op rd) (hrd : ∀ i j H (Q : VK), Q (.int (g i j)) H → rd (.int i) (.int j) H Q) :
    DS X F0 (.AugAssign (.Attribute o f pos') op e pos) (tdAugF X.K to t f g) :=
  PS.weak (ps_fldaug ho he hop) fun D σ H ⟨F, S, ρ, D', a, h, p⟩ => EL.go a h fun v H1 F1 S1 d x1 a1 r1 ⟨b, C, fs, i, e1, e2, pl, l, q1⟩ => by
    subst e1
    obtain ⟨dx, ws, h1, h2⟩ := a1.sr.ins e2
    obtain ⟨w, l1, l2⟩ := h2.lookup l
    obtain rfl := l2.int_e
    refine ⟨b, C, dx, ws, _, r1.ref_e, h1, pl.cl, pl.no, l1, ?_⟩
    refine EL.go a1 q1 fun v2 H2 F2 S2 d2 x2 a2 r2 ⟨j, fs', e3, e4, hl, q⟩ => ?_
    subst e3
    obtain rfl := r2.int_e
    obtain ⟨dx', ws', h3, h4⟩ := a2.sr.ins e4
    refine hrd _ _ _ _ ⟨dx', ws', h3, by rw [h4.length]; exact hl, ?_⟩
    exact p.1 _ _ _ _ _ ((x1.trans x2).trans (a2.sr.ext_write e4)) (a2.sr.write (o := .ins C (putFD f (.int (g i j)) fs')) e4 ⟨dx', _, rfl, putFD_rel (.int_i _) h4⟩) a2.env q
theorem rd_add : ∀ i j H (Q : VK), Q (.int (i + j)) H → rAdd (.int i) (.int j) H Q := fun i j H Q q => ⟨i, j, rfl, rfl, q⟩
theorem rd_sub : ∀ i j H (Q : VK), Q (.int (i - j)) H → rSub (.int i) (.int j) H Q := fun i j H Q q => ⟨i, j, rfl, rfl, q⟩
def gSet (S : Store) (o i v : D) (Q : Store → Prop) : Prop := ∃ a ds k j, o = .ref a ∧ i = .int k ∧ S a = some (.lst ds) ∧ ixN ds.length k = some j ∧ Q (sup S a (.lst (ds.set j v)))
def gdSub (to ti : TD) : TDG := fun v ρ S Q => to ρ S fun o S1 => ti ρ S1 fun i S2 => gSet S2 o i v fun S3 => Q ρ S3
theorem dg_sub {o i : Expr} {to ti : TD} (ho : DE X F0 o to) (hi : DE X F0 i ti)
    (ha : ∀ v, assign (.Subscript o i pos) X.env v = (do
      let ov ← holding [v] (eval o X.env)
      let iv ← holding [v, ov] (eval i X.env)
      standAt pos
      holding [v, ov, iv] (setItem ov iv v)
      release [v, ov, iv] []) := by intro _; rfl) : DG X F0 (.Subscript o i pos) (gdSub to ti) :=
  PG.weak (pg_sub ho hi set_list ha) fun v σ H Q ⟨F, S, ρ, d, Q', a, r, g, p⟩ => EL.go a g fun v1 H1 F1 S1 d1 x1 a1 r1 q1 => EL.go a1 q1 fun v2 H2 F2 S2 d2 x2 a2 r2 ⟨b, ds, k, j, e1, e2, e3, e4, q⟩ => by
    subst e1; subst e2
    obtain ⟨vs, h1, h2⟩ := a2.sr.lst e3
    refine ⟨b, vs, k, j, (RelD.mono x2.same _ _ r1).ref_e, r2.int_e, h1, by rw [h2.length]; exact e4, ?_⟩
    exact p _ _ _ _ _ ((x1.trans x2).trans (a2.sr.ext_write e3)) (a2.sr.write (o := .lst _) e3 ⟨_, rfl, h2.set (RelD.mono x2.same _ _ (RelD.mono x1.same _ _ r)) j⟩) a2.env q
theorem pget_list : PGet X (fun o i H Q => ∃ p xs k v, o = .ref p ∧ i = .int k ∧ 0 ≤ k ∧ SqL X.K H p xs ∧ xs[k.toNat]? = some v ∧ Q v H) := by
  intro pins s σ H o i ov iv Q I ro ri ⟨p, xs, k, v, e1, e2, hk, hs, hv, q⟩
  subst e1; subst e2
  cases ro
  obtain ⟨tk, rfl⟩ := ri
  obtain ⟨its, r, pl, hz⟩ := I.list hs
  obtain ⟨w, hw, rw'⟩ := r.get hv
  have hlt : k.toNat < xs.length := (List.getElem?_eq_some_iff.mp hv).1
  have hn : (sizeLine : Int) < 2 ^ 63 := by decide
  exact wpAny_getItem_list pl.isList hk (by omega) (by simpa using hw) ⟨v, H, I, rw', q⟩
def tdAugS (to ti te : TD) (g : Int → Int → Int) : TDS := fun D ρ S => to ρ S fun o S1 => ti ρ S1 fun i S2 => ∃ a ds k n, o = .ref a ∧ i = .int k ∧ 0 ≤ k ∧ S2 a = some (.lst ds) ∧ ds[k.toNat]? = some (.int n) ∧
  te ρ S2 fun y S3 => ∃ m ds', y = .int m ∧ S3 a = some (.lst ds') ∧ k.toNat < ds'.length ∧ D.nx ρ (sup S3 a (.lst (ds'.set k.toNat (.int (g n m)))))
theorem ds_augS {o i : Expr} {to ti : TD} {op : Operator} {g : Int → Int → Int} (ho : DE X F0 o to) (hi : DE X F0 i ti) (he : DE X F0 e t) (hp : PIp X op (ipI g))
    (ha : ∀ ov iv new, augStore i ov iv new = (do holding [new, ov, iv] (setItem ov iv new); release [new, ov, iv] []; pure .next) := by intros; rfl) : DS X F0 (.AugAssign (.Subscript o i pos') op e pos) (tdAugS to ti t g) :=
  PS.weak (ps_augS ho hi pget_list he hp set_list ha) fun D σ H ⟨F, S, ρ, D', a, h, p⟩ => EL.go a h fun v1 H1 F1 S1 d1 x1 a1 r1 q1 => EL.go a1 q1 fun v2 H2 F2 S2 d2 x2 a2 r2 ⟨b, ds, k, n, e1, e2, hk, e3, e4, q⟩ => by
    subst e1; subst e2
    obtain ⟨vs, h1, h2⟩ := a2.sr.lst e3
    obtain ⟨w, h3, h4⟩ := h2.get e4
    obtain rfl := h4.int_e
    refine ⟨b, vs, k, _, r1.ref_e, r2.int_e, hk, .of h1, h3, EL.go a2 q fun v3 H3 F3 S3 d3 x3 a3 r3 ⟨m, ds', e5, e6, hl, q⟩ => ?_⟩
    subst e5
    obtain ⟨us, h5, h6⟩ := a3.sr.lst e6
    refine ⟨n, m, rfl, r3.int_e, b, us, k, k.toNat, r1.ref_e, r2.int_e, h5, ?_, ?_⟩
    · unfold ixN
      rw [h6.length, if_pos hk, if_pos (by omega)]
    · exact p.1 _ _ _ _ _ (((x1.trans x2).trans x3).trans (a3.sr.ext_write e6)) (a3.sr.write (o := .lst _) e6 ⟨_, rfl, h6.set (.int_i _) _⟩) a3.env q
end
end DL
namespace DL
open PySem PySem.Spec L2 PyProof.Rows
/-- d calls deep may be gone from here -/
structure Rm (d : Nat) (A : Around) : Prop where
  noh : A.handled = none
  dep : A.depth + d + 40 < recursionLimit
  uni : A.units + 4 * d + 400 < cLine
theorem Rm.mono {i d : Nat} {A : Around} (q : Rm d A) (hle : i ≤ d) : Rm i A := ⟨q.noh, by have z := q.dep; omega, by have z := q.uni; omega⟩
theorem Rm.body {d : Nat} {A : Around} (q : Rm (d + 1) A) (env : Env) : Rm d (A.deeper env) :=
  ⟨q.noh, by have z := q.dep; show A.depth + 1 + d + 40 < _; omega, by have z := q.uni; show A.units + 3 + 4 * d + 400 < _; omega⟩
theorem Rm.made {d : Nat} {A : Around} (q : Rm (d + 1) A) (C : Addr) (us : List Value) (kw : List (Str × Value)) : Rm d (A.under (.builtin "type.__call__" ⟨.ref C :: us, kw⟩)) :=
  ⟨q.noh, by have z := q.dep; rw [make_depth]; omega, by have z := q.uni; rw [make_units]; omega⟩
theorem Rm.room {d k : Nat} {A : Around} (q : Rm d A) (hk : k ≤ 11) : Room k A := ⟨q.noh, by have z := q.dep; omega, by have z := q.uni; omega⟩
/-- where the hand layer's room is wide enough -/
theorem Rm.of {d k : Nat} {A : Around} (q : Room k A) (h1 : d + 35 ≤ 3 * k) (h2 : 4 * d + 200 ≤ 16 * k) : Rm d A := ⟨q.hd, by have z := q.dp; omega, by have z := q.un; omega⟩
/-- a def's promise, with a budget of d calls -/
structure FnD (P : Program) (w : World) (K : PySem.W.Frag) (mg : Str → Option Value) (base : Heap) (d : Nat) (f : Addr) (fd : FuncData) (ps : List Str) (sp : Sp) : Prop where
  many : ∀ us H Q E, sp us H Q E → us.length = ps.length
  goes : ∀ (A : Around) (outer : List Env) (s : Shared) (H : Hp) (args : Args) (ws : List Value) (us : List V) (Q : VK) (E : XK), Rm d A → Env0 P w K mg base A outer s H → BindsTo s fd args (ps.zip ws) → Vals us ws → sp us H Q E →
    codeAny (model P w) A (.call (.ref f) args) (CR (L2.CX P w) outer P w H s Q E) s
section
variable {X : Cx} {d : Nat} {f C : Addr} {fd : FuncData} {ps : List Str} {sp : Sp} {E : XK} {x m : Str} {p pos apos : Pos} {e o : Expr} {es : List Expr} {ta : TE} {t : TA}
theorem spNil {us : List V} {H : Hp} {Q : VK} (h : sp (us ++ []) H Q E) : sp us H Q E := by
  rw [List.append_nil] at h
  exact h
theorem goes_fn {pins : List (Addr × Obj)} {σ : L2.St} {H : Hp} {s : Shared} {Q : VK} {ws : List Value} {us : List V} (G : FnD X.prog X.w X.K X.mg X.base d f fd ps sp) (hr : Rm d X.A) (hb : Binds X.K fd ps []) (hx : Passes (L2.CX X.prog X.w) X E)
    (I : Inv X pins σ H s) (r : Vals us ws) (h : sp us H Q E) : wpAny (model X.prog X.w) X.A (call (.ref f) ws) (EP X pins σ Q) X.xe s := by
  have hl : (ws ++ []).length = ps.length := by rw [List.append_nil, ← r.length]; exact G.many _ _ _ _ h
  have bb := hb s ws I.kIn hl
  rw [List.append_nil] at bb
  refine wpAny_call (codeAny_mono (G.goes X.A X.stack s H ⟨ws, []⟩ ws us Q E hr I.env0 bb r h) fun z s' hq => ?_)
  match z, hq with
  | .error e, hq => exact hx pins σ H s e s' I hq
  | .ok (.ret u), hq => exact I.after hq
theorem pd_call (G : FnD X.prog X.w X.K X.mg X.base d f fd ps sp) (hr : Rm d X.A) (hg : Gl X x) (hm : X.mg x = some (.ref f)) (hk : PySem.W.keepIn X.K (.ref f) = true) (hb : Binds X.K fd ps []) (hx : Passes (L2.CX X.prog X.w) X E)
    (ha : PA X (e :: es) t) (hdb : (x == ("__debug__" : Str)) = false := by decide) (he : starEach (e :: es) X.env = (false, eval e X.env) :: starEach es X.env := by rfl) (hpl : (backTo pos (starEach es X.env)).any (·.1) = false := by rfl) :
    PE X (.Call (.Name x p) (e :: es) [] pos) (tCall sp [] E t) :=
  ⟨fun pins s σ H Q I h => wpAny_Call_Name_kw (ld_glob I hg hm (PySem.W.callWith_K (h₀ := X.base) I.ok.mod.kin hk (thn (ha.run pos pins s σ H _ I h) fun ws s1 ⟨us, H1, I1, r, q⟩ => ⟨I1.kIn, goes_fn G hr hb hx I1 r (spNil q)⟩) he hpl) hdb)⟩
theorem pd_call0 (G : FnD X.prog X.w X.K X.mg X.base d f fd ps sp) (hr : Rm d X.A) (hg : Gl X x) (hm : X.mg x = some (.ref f)) (hk : PySem.W.keepIn X.K (.ref f) = true) (hb : Binds X.K fd ps []) (hx : Passes (L2.CX X.prog X.w) X E)
    (hdb : (x == ("__debug__" : Str)) = false := by decide) : PE X (.Call (.Name x p) [] [] pos) (tCall sp [] E tNil) :=
  ⟨fun pins s σ H Q I h => wpAny_Call_Name_kw (ld_glob I hg hm (PySem.W.callWith_K0 I.kIn hk (goes_fn (ws := []) G hr hb hx I .nil h)) hdb)⟩
theorem pd_callL {i : Nat} (G : FnD X.prog X.w X.K X.mg X.base d f fd ps sp) (hr : Rm d X.A) (hN : X.N[i]? = some x) (hv : Vis X.env.scope x) (hk : PySem.W.keepIn X.K (.ref f) = true) (hb : Binds X.K fd ps []) (hx : Passes (L2.CX X.prog X.w) X E) (ha : PA X (e :: es) t)
    (hdb : (x == ("__debug__" : Str)) = false := by decide) (hcd : (x == ("__classdict__" : Str)) = false := by decide)
    (he : starEach (e :: es) X.env = (false, eval e X.env) :: starEach es X.env := by rfl) (hpl : (backTo pos (starEach es X.env)).any (·.1) = false := by rfl) : PE X (.Call (.Name x p) (e :: es) [] pos) (tCallL i f sp [] E t) := by
  refine ⟨fun pins s σ H Q I ⟨h0, h⟩ => wpAny_Call_Name_kw (thn ((pe_var (pos := p) hN hv hdb hcd).run pins s σ H (fun v H1 => v = .ref f ∧ H1 = H) I ⟨.ref f, h0, rfl, rfl⟩) fun u s1 ⟨v, H1, I1, r1, e1, e2⟩ => ?_)⟩
  subst e1; subst e2
  obtain rfl : u = Value.ref f := r1
  refine PySem.W.callWith_K (h₀ := X.base) I.ok.mod.kin hk (thn (ha.run pos pins s1 σ _ _ I1 h) fun ws s2 ⟨us, H2, I2, r, q⟩ => ⟨I2.kIn, ?_⟩) he hpl
  exact goes_fn G hr hb hx I2 r (spNil q)
theorem pd_meth {pl : Sem Bool} (he : PE X o ta) (c : Cls X.K C) (hm : Meth X.K C m f) (G : FnD X.prog X.w X.K X.mg X.base d f fd ps sp) (hr : Rm d X.A) (hb : Binds X.K fd ps []) (hx : Passes (L2.CX X.prog X.w) X E) (ha : PA X (e :: es) t)
    (hst : starEach (e :: es) X.env = (false, eval e X.env) :: starEach es X.env := by rfl) (hpl : (backTo pos (starEach es X.env)).any (·.1) = false := by rfl)
    (ht : eval (.Call (.Attribute o m apos) (e :: es) [] pos) X.env = (do
      let ov ← eval o X.env
      standAt apos.atName
      let (f, first) ← holding [ov] (getMethod ov m pl)
      callWith pos f first (backTo pos (starEach (e :: es) X.env)) (backToKw pos (keywordEach [] X.env))) := by rfl) :
    PE X (.Call (.Attribute o m apos) (e :: es) [] pos) (tMeth C m sp [] E ta t) := by
  refine ⟨fun pins s σ H Q I h => PySem.W.methodCall_KW (pl := pl) (thn (he.run pins s σ H _ I h) fun u s1 ⟨y, H1, I1, ry, a, dx, fs, e1, e2, l, q⟩ => ?_) ht⟩
  subst e1
  obtain rfl : u = Value.ref a := ry
  refine getmeth_ok I1 e2 c hm l (PySem.W.callWith_K (first := [.ref a]) (h₀ := X.base) I.ok.mod.kin hm.kp (thn (ha.run pos pins s1 σ H1 _ I1 q) fun ws s2 ⟨us, H2, I2, r, q2⟩ => ⟨I2.kIn, ?_⟩) hst hpl)
  exact goes_fn (ws := .ref a :: ws) (us := .ref a :: us) G hr hb hx I2 (.cons rfl r) (spNil (us := .ref a :: us) q2)
theorem pd_meth0 {pl : Sem Bool} (he : PE X o ta) (c : Cls X.K C) (hm : Meth X.K C m f) (G : FnD X.prog X.w X.K X.mg X.base d f fd ps sp) (hr : Rm d X.A) (hb : Binds X.K fd ps []) (hx : Passes (L2.CX X.prog X.w) X E)
    (ht : eval (.Call (.Attribute o m apos) [] [] pos) X.env = (do
      let ov ← eval o X.env
      standAt apos.atName
      let (f, first) ← holding [ov] (getMethod ov m pl)
      callWith pos f first (backTo pos (starEach [] X.env)) (backToKw pos (keywordEach [] X.env))) := by rfl) :
    PE X (.Call (.Attribute o m apos) [] [] pos) (tMeth C m sp [] E ta tNil) := by
  refine ⟨fun pins s σ H Q I h => PySem.W.methodCall_KW (pl := pl) (thn (he.run pins s σ H _ I h) fun u s1 ⟨y, H1, I1, ry, a, dx, fs, e1, e2, l, q⟩ => ?_) ht⟩
  subst e1
  obtain rfl : u = Value.ref a := ry
  exact getmeth_ok I1 e2 c hm l (PySem.W.callWith_K0 (first := [.ref a]) I1.kIn hm.kp (goes_fn (ws := [.ref a]) (us := [.ref a]) G hr hb hx I1 (.cons rfl .nil) q))
theorem goes_make {pins : List (Addr × Obj)} {σ : L2.St} {H : Hp} {s : Shared} {Q : VK} {ws : List Value} {us : List V} (M : Mk X.K C f) (G : FnD X.prog X.w X.K X.mg X.base d f fd ps sp) (hr : Rm (d + 1) X.A) (hb : Binds X.K fd ps [])
    (hx : Passes (L2.CX X.prog X.w) X E) (I : Inv X pins σ H s) (r : Vals us ws)
    (h : ∀ y dy, H y = none → H dy = none → dy ≠ y → sp (.ref y :: us) (upd (upd H dy (.own y)) y (.ins C dy [])) (fun v H2 => v = .non ∧ Q (.ref y) H2) E) :
    wpAny (model X.prog X.w) X.A (call (.ref C) ws) (EP X pins σ Q) X.xe s := by
  have hq := h (s.heap.objs.size + 1) s.heap.objs.size (I.hok.fresh (Nat.le_succ _)) (I.hok.fresh (Nat.le_refl _)) (Nat.ne_of_lt (Nat.lt_succ_self _))
  have J := Inv.made (C := C) I
  have r2 : Vals (V.ref (s.heap.objs.size + 1) :: us) (Value.ref (s.heap.objs.size + 1) :: ws) := .cons rfl r
  have bb := hb _ (Value.ref (s.heap.objs.size + 1) :: ws) J.kIn (by rw [List.append_nil, ← r2.length]; exact G.many _ _ _ _ hq)
  rw [List.append_nil] at bb
  refine wpAny_call (make_map (f := f) I.kIn M.makes M.init (beq_iff_eq.mp M.fn) (codeAny_mono (G.goes _ X.stack _ _ ⟨Value.ref (s.heap.objs.size + 1) :: ws, []⟩ _ _ _ E (hr.made C ws []) (J.env0.make C ws []) bb r2 hq) fun z s' hz => ?_))
  match z, hz with
  | .error e, hz => exact hx pins σ _ _ e s' J hz
  | .ok (.ret u), hz =>
    obtain ⟨v, H', J2, rv, ev, q3⟩ := J.after hz
    subst ev
    exact ⟨rv, ⟨V.ref (s.heap.objs.size + 1), H', J2, rfl, q3⟩⟩
theorem pd_make (M : Mk X.K C f) (G : FnD X.prog X.w X.K X.mg X.base d f fd ps sp) (hr : Rm (d + 1) X.A) (hg : Gl X x) (hm : X.mg x = some (.ref C)) (hb : Binds X.K fd ps []) (hx : Passes (L2.CX X.prog X.w) X E)
    (ha : PA X (e :: es) t) (hdb : (x == ("__debug__" : Str)) = false := by decide) (he : starEach (e :: es) X.env = (false, eval e X.env) :: starEach es X.env := by rfl) (hpl : (backTo pos (starEach es X.env)).any (·.1) = false := by rfl) :
    PE X (.Call (.Name x p) (e :: es) [] pos) (tMake C sp [] E t) :=
  ⟨fun pins s σ H Q I h => wpAny_Call_Name_kw (ld_glob I hg hm (PySem.W.callWith_K (h₀ := X.base) I.ok.mod.kin M.kp (thn (ha.run pos pins s σ H _ I h) fun ws s1 ⟨us, H1, I1, r, q⟩ => ⟨I1.kIn, goes_make M G hr hb hx I1 r (fun y dy a b c => spNil (us := .ref y :: us) (q y dy a b c))⟩) he hpl) hdb)⟩
end
section
variable {P : Program} {w : World} {K : PySem.W.Frag} {mg : Str → Option Value} {base : Heap}
/-- a def by its body, with a budget of depth -/
theorem fnd_of {x qual : Str} {st : Stmt} {f : Addr} {fd : FuncData} {N ps : List Str} {d : Nat} {sp : Sp} (Fn : Fun K x qual st f fd) (Sc : FnScope N ps (defScope st)) (many : ∀ us H Q E, sp us H Q E → us.length = ps.length)
    (hbody : ∀ (cdv : Value) (A : Around) (outer : List Env) (s : Shared) (H : Hp) (us : List V) (Q : VK) (E : XK), Rm d (A.deeper (envOfC qual (defScope st) s.heap.objs.size f cdv)) → sp us H Q E →
      ∃ t, PSs (cxOf (L2.CX P w) P w K mg base N qual (defScope st) f cdv A outer s H E) (defBody st) t ∧ t { nx := fun _ H' => Q .non H', rt := Q } (start N us) H) :
    FnD P w K mg base (d + 1) f fd ps sp := by
  obtain ⟨oc, od, kV, doc, pm, an, cdv, ct, osl, rfl, lk, hcd⟩ := Fn.ex
  refine ⟨many, fun A outer s H args ws us Q E hr e0 hb r hsp => ?_⟩
  have KX : K.In s.heap := e0.mod.kin.keeps fun b o z => (e0.bs b o z).1
  have hkind : ∀ y ∈ ps.zip ws, (defScope st).names.lookup y.1 = some .local ∨ ((defScope st).names.lookup y.1 = some .cell ∧ ((cellsFrom (s.heap.objs.size + 1) (defScope st).names []).lookup y.1).isSome = true) := fun ⟨n, v⟩ hy =>
    (Sc.par n (List.of_mem_zip hy).1).imp id fun q => ⟨q, PySem.W.cellsFrom_some _ _ _ (.inl q)⟩
  refine codeAny_call_function (by have z := hr.dep; omega) (KX _ _ lk) rfl Sc.co Sc.gen rfl (PySem.W.codeRec_of KX hcd) (hb _ _ _ _ (wpAny_newFunctionEnv_cells Sc.kind hkind fun env he s1 y => ?_))
  subst he
  obtain ⟨t, ht, hq⟩ := hbody cdv A outer s H us Q E (hr.body _) hsp
  have I : Inv (cxOf (L2.CX P w) P w K mg base N qual (defScope st) f cdv A outer s H E) [] (start N us) H s1 := inv_start Sc hr.noh e0 (many _ _ _ _ hsp) r y
  refine ⟨(e0.mod.nolimit.keeps fun b o z => (e0.bs b o z).1).keeps y.toInCall.keep, codeAny_func (wpAny_mono (ht.run [] s1 (start N us) H _ I hq) (fun fl s' hs => ?_) fun e s' hs => hs)⟩
  have fin : ∀ {σ' : L2.St} {H' : Hp} {v : V} {u : Value}, Inv (cxOf (L2.CX P w) P w K mg base N qual (defScope st) f cdv A outer s H E) [] σ' H' s' → RelV v u → Q v H' → CE outer P w H s Q u s' :=
    fun {σ' H' v u} J rv q => ⟨v, H', J.os, J.bare, J.base, J.hok, rv, q⟩
  match fl, hs with
  | .ret u, ⟨v, σ', H', J, rv, q⟩ => exact fin J rv q
  | .next, ⟨σ', H', J, q⟩ => exact fin (v := V.non) (u := Value.none) J rfl q
  | .brk, ⟨_, _, _, q⟩ => exact q.elim
  | .cont, ⟨_, _, _, q⟩ => exact q.elim
end
end DL
namespace DL
open PySem PySem.Spec L2
def kD : DK → D
  | .inl i => .int i
  | .inr t => .str t
def valD : List (DK × D) → DK → Option D
  | [], _ => none
  | (k', d) :: r, k => if k' = k then some d else valD r k
def hasD : List (DK × D) → DK → Bool
  | [], _ => false
  | (k', _) :: r, k => if k' = k then true else hasD r k
/-- in its place -/
def repD : List (DK × D) → DK → D → List (DK × D)
  | [], _, _ => []
  | (k', d') :: r, k, d => (k', if k' = k then d else d') :: repD r k d
def putD (kvs : List (DK × D)) (k : DK) (d : D) : List (DK × D) := if hasD kvs k = true then repD kvs k d else kvs ++ [(k, d)]
def mergeD (kvs more : List (DK × D)) : List (DK × D) := more.foldl (fun acc kv => putD acc kv.1 kv.2) kvs
abbrev kmap (kvs : List (DK × D)) : List (Key × D) := kvs.map fun p => (kk p.1, p.2)
section
variable {K : PySem.W.Frag} {F : Hp}
theorem kV_rel (k : DK) : RelD K F (kD k) (kV (kk k)) := by
  cases k with
  | inl i => exact .int_i i
  | inr t => exact .str_i t
theorem kD_rel {k : DK} {v : V} (r : RelD K F (kD k) v) : v = kV (kk k) := by
  cases k with
  | inl i => exact r.int_e
  | inr t => exact r.str_e
theorem valD_rel {k : DK} {d : D} : ∀ {kvs : List (DK × D)} {ws : List (Key × V)}, RelF K F (kmap kvs) ws → valD kvs k = some d → ∃ v, valV ws (kk k) = some v ∧ RelD K F d v
  | [], _, _, e => by cases e
  | (k', d') :: r, _, h, e => by
    obtain ⟨w, ws, rfl, h1, h2⟩ := h
    unfold valD at e
    by_cases q : k' = k
    · rw [if_pos q] at e; cases e
      exact ⟨w, by rw [q]; exact valV_pos rfl, h1⟩
    · rw [if_neg q] at e
      obtain ⟨v, h3, h4⟩ := valD_rel h2 e
      refine ⟨v, ?_, h4⟩
      unfold valV at h3 ⊢
      rw [List.find?_cons_of_neg]
      · exact h3
      · simp; exact fun z => q (kk_inj z)
theorem hasD_rel {k : DK} : ∀ {kvs : List (DK × D)} {ws : List (Key × V)}, RelF K F (kmap kvs) ws → (ws.any fun kv => decide (kv.1 = kk k)) = hasD kvs k
  | [], _, h => by rw [show _ = _ from h]; rfl
  | (k', d') :: r, _, h => by
    obtain ⟨w, ws, rfl, h1, h2⟩ := h
    unfold hasD
    rw [List.any_cons, hasD_rel h2]
    by_cases q : k' = k
    · rw [if_pos q, q]; simp
    · rw [if_neg q]
      have : decide ((kk k', w).1 = kk k) = false := decide_eq_false fun z => q (kk_inj z)
      rw [this]; rfl
theorem repD_rel {k : DK} {d : D} {v : V} (rd : RelD K F d v) : ∀ {kvs : List (DK × D)} {ws : List (Key × V)}, RelF K F (kmap kvs) ws → RelF K F (kmap (repD kvs k d)) (ws.map fun kv => if kv.1 = kk k then (kv.1, v) else kv)
  | [], _, h => by rw [show _ = _ from h]; exact rfl
  | (k', d') :: r, _, h => by
    obtain ⟨w, ws, rfl, h1, h2⟩ := h
    unfold repD
    by_cases q : k' = k
    · subst q
      refine ⟨v, _, ?_, by simpa using rd, repD_rel rd h2⟩
      simp
    · have n : ¬ kk k' = kk k := fun z => q (kk_inj z)
      refine ⟨w, _, ?_, by rw [if_neg q]; exact h1, repD_rel rd h2⟩
      simp [n]
theorem RelF.app {κ : Type} : ∀ {fs gs : List (κ × D)} {ws us : List (κ × V)}, RelF K F fs ws → RelF K F gs us → RelF K F (fs ++ gs) (ws ++ us)
  | [], _, _, _, h, g => by rw [show _ = _ from h]; exact g
  | (k, d) :: fs, _, _, _, h, g => by
    obtain ⟨v, r, rfl, h2, h3⟩ := h
    exact ⟨v, _, rfl, h2, RelF.app h3 g⟩
theorem putD_rel {k : DK} {d : D} {v : V} {kvs : List (DK × D)} {ws : List (Key × V)} (rd : RelD K F d v) (h : RelF K F (kmap kvs) ws) : RelF K F (kmap (putD kvs k d)) (putK ws (kk k) v) := by
  unfold putD putK
  rw [hasD_rel h]
  split
  · exact repD_rel rd h
  · unfold kmap
    rw [List.map_append]
    exact RelF.app h ⟨v, [], rfl, rd, rfl⟩
theorem mergeD_rel : ∀ {more : List (DK × D)} {ms : List (Key × V)} {kvs : List (DK × D)} {ws : List (Key × V)}, RelF K F (kmap more) ms → RelF K F (kmap kvs) ws → RelF K F (kmap (mergeD kvs more)) (mergeK ws ms)
  | [], _, kvs, ws, h, g => by rw [show _ = _ from h]; exact g
  | (k, d) :: r, _, kvs, ws, h, g => by
    obtain ⟨v, ms, rfl, h1, h2⟩ := h
    show RelF K F (kmap (mergeD (putD kvs k d) r)) (mergeK (putK ws (kk k) v) ms)
    exact mergeD_rel (more := r) (ms := ms) h2 (putD_rel h1 g)
/-- what was laid ahead takes its content -/
theorem SR.adoptS {S2 : Store} {H2 : Hp} {p : Addr} {o : DO} {ho : HO} (sr : SR K F S2 H2) (hF : F p = none) (r : RelO K F o ho) : SR K F (sup S2 p o) (upd H2 p ho) where
  fro := fun b u q => by
    rw [upd_ne]; exact sr.fro b u q
    intro z; rw [z, hF] at q; cases q
  obj := fun b u q => by
    by_cases z : b = p
    · subst z; rw [sup_same] at q; cases q
      exact ⟨hF, ho, upd_same, r⟩
    · rw [sup_ne z] at q; rw [upd_ne z]; exact sr.obj b u q
theorem SR.adoptF {S2 : Store} {H2 : Hp} {p : Addr} {ho : HO} (sr : SR K F S2 H2) (hF : F p = none) (hS : S2 p = none) : SR K (upd F p ho) S2 (upd H2 p ho) ∧ Same F (upd F p ho) := by
  have sm : Same F (upd F p ho) := fun b u q => by
    rw [upd_ne]; exact q
    intro z; rw [z, hF] at q; cases q
  refine ⟨⟨fun b u q => ?_, fun b u q => ?_⟩, sm⟩
  · by_cases z : b = p
    · subst z; rw [upd_same] at q ⊢; exact q
    · rw [upd_ne z] at q ⊢; exact sr.fro b u q
  · obtain ⟨h1, ho', h2, h3⟩ := sr.obj b u q
    have z : b ≠ p := by intro z; rw [z, hS] at q; cases q
    rw [upd_ne z, upd_ne z]
    exact ⟨h1, ho', h2, h3.mono sm⟩
theorem Ext.laid_none {F2 : Hp} {S S2 : Store} {H H2 : Hp} {p : Addr} {o1 : HO} (sr : SR K F S H) (x : Ext F S (upd H p o1) F2 S2 H2) (hp : H p = none) : F2 p = none ∧ S2 p = none ∧ H2 p = some o1 := by
  have hS := sr.snone hp
  have hF := sr.fnone hp
  refine ⟨?_, ?_, x.off p o1 upd_same hS⟩
  · cases q : F2 p with
    | none => rfl
    | some u =>
      rcases x.newF p (by rw [q]; simp) hF with z | z
      · exact absurd hS z
      · rw [upd_same] at z; cases z
  · cases q : S2 p with
    | none => rfl
    | some u =>
      rcases x.newS p (by rw [q]; simp) with z | z
      · exact absurd hS z
      · rw [upd_same] at z; cases z
theorem Ext.adoptS {F2 : Hp} {S S2 : Store} {H H2 : Hp} {p : Addr} {o1 ho : HO} {o : DO} (x : Ext F S (upd H p o1) F2 S2 H2) (hp : H p = none) : Ext F S H F2 (sup S2 p o) (upd H2 p ho) where
  same := x.same
  off := fun b u q n => by
    have z : b ≠ p := by intro z; rw [z, hp] at q; cases q
    rw [upd_ne z]
    exact x.off b u (by rw [upd_ne z]; exact q) n
  newF := fun b q g => by
    rcases x.newF b q g with z | z
    · exact .inl z
    · by_cases e : b = p
      · subst e; exact .inr hp
      · rw [upd_ne e] at z; exact .inr z
  newS := fun b q => by
    by_cases e : b = p
    · subst e; exact .inr hp
    · rw [sup_ne e] at q
      rcases x.newS b q with z | z
      · exact .inl z
      · rw [upd_ne e] at z; exact .inr z
theorem Ext.adoptF {F2 : Hp} {S S2 : Store} {H H2 : Hp} {p : Addr} {o1 ho : HO} (x : Ext F S (upd H p o1) F2 S2 H2) (hp : H p = none) (hF2 : F2 p = none) : Ext F S H (upd F2 p ho) S2 (upd H2 p ho) where
  same := fun b u q => by
    have h := x.same b u q
    rw [upd_ne]; exact h
    intro z; rw [z, hF2] at h; cases h
  off := fun b u q n => by
    have z : b ≠ p := by intro z; rw [z, hp] at q; cases q
    rw [upd_ne z]
    exact x.off b u (by rw [upd_ne z]; exact q) n
  newF := fun b q g => by
    by_cases e : b = p
    · subst e; exact .inr hp
    · rw [upd_ne e] at q
      rcases x.newF b q g with z | z
      · exact .inl z
      · rw [upd_ne e] at z; exact .inr z
  newS := fun b q => by
    rcases x.newS b q with z | z
    · exact .inl z
    · by_cases e : b = p
      · subst e; exact .inr hp
      · rw [upd_ne e] at z; exact .inr z
/-- laid empty, untracked over data -/
theorem SR.laid {S : Store} {H : Hp} {p : Addr} {o1 : HO} (sr : SR K F S H) (hp : H p = none) : SR K F S (upd H p o1) where
  fro := fun b u q => by
    rw [upd_ne]; exact sr.fro b u q
    intro z; rw [z, sr.fnone hp] at q; cases q
  obj := fun b u q => by
    obtain ⟨h1, ho', h2, h3⟩ := sr.obj b u q
    have z : b ≠ p := by intro z; rw [z, hp] at h2; cases h2
    rw [upd_ne z]; exact ⟨h1, ho', h2, h3⟩
end
section
variable {X : Cx} {F0 : Ent} {e a b c o i lo hi : Expr} {es : List Expr} {t ta tb tv to ti : TD} {tr : TDs} {pos pos' p2 : Pos}
def tdGet (to ti : TD) : TD := fun ρ S Q => to ρ S fun x S1 => ti ρ S1 fun y S2 => ∃ a kvs k d, x = .ref a ∧ S2 a = some (.dic kvs) ∧ y = kD k ∧ valD kvs k = some d ∧ Q d S2
theorem de_get (hu : X.A.units + 1 < cLine) (ho : DE X F0 o to) (hi : DE X F0 i ti) (hs : NoSl i := by exact fun _ _ => rfl) : DE X F0 (.Subscript o i pos) (tdGet to ti) :=
  PE.weak (pe_dget hu ho hi hs) fun σ H Q ⟨F, S, ρ, Q', at0, h, p⟩ => EL.go at0 h fun v1 H1 F1 S1 d1 x1 a1 r1 q1 => EL.go a1 q1 fun v2 H2 F2 S2 d2 x2 a2 r2 ⟨b, kvs, k, d, e1, e2, e3, e4, q⟩ => by
    subst e1; subst e3
    obtain ⟨ws, h1, h2⟩ := a2.sr.dic e2
    obtain ⟨v, h3, h4⟩ := valD_rel h2 e4
    refine ⟨b, v, r1.ref_e, ?_, p.of (x1.trans x2) a2.sr h4 q⟩
    rw [kD_rel r2, ← h3]
    exact DGet.k h1
def tdDPut (to ti te : TD) : TDS := fun D ρ S => te ρ S fun v S1 => to ρ S1 fun x S2 => ti ρ S2 fun y S3 => ∃ a kvs k, x = .ref a ∧ S3 a = some (.dic kvs) ∧ y = kD k ∧ kvs.length < sizeLine ∧ D.nx ρ (sup S3 a (.dic (putD kvs k v)))
theorem ds_dput (hu : X.A.units + 1 < cLine) (ho : DE X F0 o to) (hi : DE X F0 i ti) (he : DE X F0 e t) (hs : swapsWith e (some (.Subscript o i pos')) pos.line X.env = pure false := by rfl) : DS X F0 (.Assign [.Subscript o i pos'] e pos) (tdDPut to ti t) :=
  PS.weak (ps_dput hu ho hi he hs) fun D σ H ⟨F, S, ρ, D', at0, h, p⟩ => EL.go at0 h fun v0 H0 F0 S0 d0 x0 a0 r0 q0 => EL.go a0 q0 fun v1 H1 F1 S1 d1 x1 a1 r1 q1 => EL.go a1 q1 fun v2 H2 F2 S2 d2 x2 a2 r2 ⟨b, kvs, k, e1, e2, e3, hl, q⟩ => by
    subst e1; subst e3
    obtain ⟨ws, h1, h2⟩ := a2.sr.dic e2
    have hl' : ws.length < sizeLine := by rw [h2.length, List.length_map]; exact hl
    refine ⟨b, _, r1.ref_e, ?_, p.1 _ _ _ _ _ (((x0.trans x1).trans x2).trans (a2.sr.ext_write e2)) (a2.sr.write (o := .dic _) e2 ⟨_, rfl, putD_rel (RelD.mono x2.same _ _ (RelD.mono x1.same _ _ r0)) h2⟩) a2.env q⟩
    rw [kD_rel r2]
    exact DPut.k h1 hl'
def tdDAug (to ti te : TD) (g : Int → Int → Int) : TDS := fun D ρ S => to ρ S fun x S1 => ti ρ S1 fun y S2 => ∃ a kvs k n, x = .ref a ∧ S2 a = some (.dic kvs) ∧ y = kD k ∧ valD kvs k = some (.int n) ∧
  te ρ S2 fun z S3 => ∃ m kvs', z = .int m ∧ S3 a = some (.dic kvs') ∧ kvs'.length < sizeLine ∧ D.nx ρ (sup S3 a (.dic (putD kvs' k (.int (g n m)))))
theorem ds_daug {op : Operator} {g : Int → Int → Int} {rd : V → V → Hp → VK → Prop} (hu : X.A.units + 1 < cLine) (ho : DE X F0 o to) (hi : DE X F0 i ti) (he : DE X F0 e t) (hop : InOp X op rd) (hrd : ∀ i j H (Q : VK), Q (.int (g i j)) H → rd (.int i) (.int j) H Q)
    (ha : ∀ ov iv new, augStore i ov iv new = (do holding [new, ov, iv] (setItem ov iv new); release [new, ov, iv] []; pure .next) := by intros; rfl) : DS X F0 (.AugAssign (.Subscript o i pos') op e pos) (tdDAug to ti t g) :=
  PS.weak (ps_daug hu ho hi he hop ha) fun D σ H ⟨F, S, ρ, D', at0, h, p⟩ => EL.go at0 h fun v1 H1 F1 S1 d1 x1 a1 r1 q1 => EL.go a1 q1 fun v2 H2 F2 S2 d2 x2 a2 r2 ⟨b, kvs, k, n, e1, e2, e3, e4, q⟩ => by
    subst e1; subst e3
    obtain ⟨ws, h1, h2⟩ := a2.sr.dic e2
    obtain ⟨v, h3, h4⟩ := valD_rel h2 e4
    obtain rfl := h4.int_e
    refine ⟨b, V.int n, r1.ref_e, ?_, EL.go a2 q fun v3 H3 F3 S3 d3 x3 a3 r3 ⟨m, kvs', e5, e6, hl, q⟩ => ?_⟩
    · rw [kD_rel r2, ← h3]; exact DGet.k h1
    · subst e5
      obtain rfl := r3.int_e
      obtain ⟨us, h5, h6⟩ := a3.sr.dic e6
      refine hrd _ _ _ _ ⟨upd H3 b (.dK (putK us (kk k) (.int (g n m)))), ?_, p.1 _ _ _ _ _ (((x1.trans x2).trans x3).trans (a3.sr.ext_write e6)) (a3.sr.write (o := .dic _) e6 ⟨_, rfl, putD_rel (.int_i _) h6⟩) a3.env q⟩
      rw [kD_rel r2]
      exact DPut.k h5 (by rw [h6.length, List.length_map]; exact hl)
/-- a written dict -/
def tdPairs : List (TD × TD) → Rho → Store → (List (D × D) → Store → Prop) → Prop
  | [], _, S, Q => Q [] S
  | (tk, tv) :: r, ρ, S, Q => tk ρ S fun x S1 => tv ρ S1 fun y S2 => tdPairs r ρ S2 fun ps S3 => Q ((x, y) :: ps) S3
/-- the pairs as keys and values -/
def keysD : List (D × D) → Option (List (DK × D))
  | [] => some []
  | (.int i, d) :: r => (keysD r).map ((.inl i, d) :: ·)
  | (.str t, d) :: r => (keysD r).map ((.inr t, d) :: ·)
  | _ => none
def tdDict (trs : List (TD × TD)) : TD := fun ρ S Q => tdPairs trs ρ S fun ps S2 => ∃ kvs, keysD ps = some kvs ∧ kvs.length ≤ 15 ∧ ∀ p, S2 p = none → Q (.ref p) (sup S2 p (.dic (mergeD [] kvs)))
inductive DPs (X : Cx) (F0 : Ent) (pos : Pos) : List (Option Expr) → List Expr → List (TD × TD) → Prop
  | nil : DPs X F0 pos [] [] []
  | cons {k v : Expr} {ks : List (Option Expr)} {vs : List Expr} {tk tv : TD} {trs : List (TD × TD)} : DE X F0 k tk → DE X F0 v tv → DPs X F0 pos ks vs trs → DPs X F0 pos (some k :: ks) (v :: vs) ((tk, tv) :: trs)
def RelPs (K : PySem.W.Frag) (F : Hp) : List (D × D) → List (V × V) → Prop
  | [], ws => ws = []
  | (x, y) :: r, ws => ∃ v w q, ws = (v, w) :: q ∧ RelD K F x v ∧ RelD K F y w ∧ RelPs K F r q
theorem keysD_rel {K : PySem.W.Frag} {F : Hp} : ∀ {ps : List (D × D)} {ws : List (V × V)} {kvs : List (DK × D)}, RelPs K F ps ws → keysD ps = some kvs → ∃ us : List (Key × V), ws = us.map (fun kv => (kV kv.1, kv.2)) ∧ RelF K F (kmap kvs) us
  | [], _, kvs, h, e => by cases e; rw [show _ = _ from h]; exact ⟨[], rfl, rfl⟩
  | (x, y) :: r, _, kvs, h, e => by
    obtain ⟨v, w, q, rfl, h1, h2, h3⟩ := h
    unfold keysD at e
    split at e <;> first
      | (rename_i heq; cases heq; done)
      | (cases e; done)
      | (rename_i heq
         obtain ⟨⟨rfl, rfl⟩, rfl⟩ : (_ ∧ _) ∧ _ := by simpa [Prod.ext_iff] using heq
         cases z : keysD _ with
         | none => rw [z] at e; cases e
         | some ms =>
           rw [z] at e; cases e
           obtain ⟨us, k1, k2⟩ := keysD_rel h3 z
           first
            | (obtain rfl := h1.int_e; exact ⟨(.inl _, w) :: us, by rw [k1]; rfl, w, us, rfl, h2, k2⟩)
            | (obtain rfl := h1.str_e; exact ⟨(.inr _, w) :: us, by rw [k1]; rfl, w, us, rfl, h2, k2⟩))
theorem DPs.pps {X : Cx} {F0 : Ent} {pos : Pos} {ks : List (Option Expr)} {vs : List Expr} {trs : List (TD × TD)} (h : DPs X F0 pos ks vs trs) : PPs X pos ks vs (trs.map fun p => (EL X.K F0 p.1, EL X.K F0 p.2)) := by
  induction h with
  | nil => exact pps_nil
  | cons h1 h2 _ ih => exact pps_cons h1 h2 ih
theorem pairs_go {K : PySem.W.Frag} {F0 : Ent} : ∀ {trs : List (TD × TD)} {F : Hp} {S : Store} {H : Hp} {ρ : Rho} {σ : L2.St} {R : List (V × V) → Hp → Prop} {Q1 : List (D × D) → Store → Prop}, At K F0 F S H ρ σ → tdPairs trs ρ S Q1 →
    (∀ ws H1 F1 S1 ps, Ext F S H F1 S1 H1 → At K F0 F1 S1 H1 ρ σ → RelPs K F1 ps ws → Q1 ps S1 → R ws H1) → tPairs (trs.map fun p => (EL K F0 p.1, EL K F0 p.2)) σ H R
  | [], F, S, H, ρ, σ, R, Q1, a, h, n => n [] H F S [] (Ext.refl _ _ _) a rfl h
  | (tk, tv) :: r, F, S, H, ρ, σ, R, Q1, a, h, n => by
    refine EL.go a h fun v1 H1 F1 S1 d1 x1 a1 r1 q1 => EL.go a1 q1 fun v2 H2 F2 S2 d2 x2 a2 r2 q2 => ?_
    refine pairs_go a2 q2 fun ws H3 F3 S3 ps x3 a3 r3 q3 => ?_
    exact n _ H3 F3 S3 ((d1, d2) :: ps) ((x1.trans x2).trans x3) a3 ⟨v1, v2, ws, rfl, RelD.mono x3.same _ _ (RelD.mono x2.same _ _ r1), RelD.mono x3.same _ _ r2, r3⟩ q3
theorem de_dict {keys : List (Option Expr)} {values : List Expr} {trs : List (TD × TD)} (h : DPs X F0 pos keys values trs) (hall : keys.all (·.isSome) = true := by rfl) (hl : keys.length = values.length := by rfl) (h0 : keys ≠ [] := by exact fun z => nomatch z) (h15 : keys.length ≤ 15 := by decide) : DE X F0 (.Dict keys values pos) (tdDict trs) :=
  PE.weak (pe_disp h.pps hall hl h0 h15) fun σ H Q ⟨F, S, ρ, Q', a, h, p⟩ pp hp => by
    have al : At X.K F0 F S (upd H pp (.dK [])) ρ σ := ⟨a.f0.trans (Ext.laid hp), a.sr.laid hp, a.env⟩
    refine pairs_go al h fun ws H1 F1 S1 ps x1 a1 r1 ⟨kvs, e1, e2, q⟩ => ?_
    obtain ⟨nF, nS, hH⟩ := x1.laid_none a.sr hp
    obtain ⟨us, k1, k2⟩ := keysD_rel r1 e1
    refine ⟨hH, us, k1, by rw [k2.length, List.length_map]; exact e2, ?_⟩
    exact p.of (x1.adoptS hp) (a1.sr.adoptS (o := .dic (mergeD [] kvs)) nF ⟨_, rfl, mergeD_rel k2 rfl⟩) (.ref_i _) (q pp nS)
structure Exn where
  C : Addr
  fs : List (Str × D)
def ExnRel (K : PySem.W.Frag) (F : Hp) (x : Exn) (cls : Value) (od : Option Addr) (H : Hp) : Prop :=
  cls = .ref x.C ∧ ((od = none ∧ x.fs = []) ∨ ∃ d ws, od = some d ∧ H d = some (.xd ws) ∧ RelF K F x.fs ws)
abbrev XD := Exn → Store → Prop
/-- what a def does, told over data -/
abbrev M := List D → Store → (D → Store → Prop) → XD → Prop
def EPost (K : PySem.W.Frag) (F : Hp) (S : Store) (H : Hp) (E' : XD) (E : XK) : Prop :=
  ∀ F' S' H' x cls od, Ext F S H F' S' H' → SR K F' S' H' → ExnRel K F' x cls od H' → E' x S' → E cls od H'
def spM (K : PySem.W.Frag) (m : M) (n : Nat) : Sp := fun vs H Q E => ∃ F S ds Q' E', SR K F S H ∧ RelDs K F ds vs ∧ ds.length = n ∧ m ds S Q' E' ∧ Post K F S H Q' Q ∧ EPost K F S H E' E
def DF (P : Program) (w : World) (K : PySem.W.Frag) (mg : Str → Option Value) (base : Heap) (k : Nat) (f : Addr) (fd : FuncData) (ps : List Str) (m : M) : Prop := FnD P w K mg base k f fd ps (spM K m ps.length)
theorem DF.mono {P : Program} {w : World} {K : PySem.W.Frag} {mg : Str → Option Value} {base : Heap} {j k : Nat} {f : Addr} {fd : FuncData} {ps : List Str} {m : M} (F : DF P w K mg base j f fd ps m) (h : j ≤ k) : DF P w K mg base k f fd ps m := ⟨F.many, fun A outer s H args ws us Q E hr => F.goes A outer s H args ws us Q E (hr.mono h)⟩
/-- another promise that is kept by this one -/
theorem DF.imp {P : Program} {w : World} {K : PySem.W.Frag} {mg : Str → Option Value} {base : Heap} {k : Nat} {f : Addr} {fd : FuncData} {ps : List Str} {m m' : M} (F : DF P w K mg base k f fd ps m) (h : ∀ ds S Q E, m' ds S Q E → m ds S Q E) : DF P w K mg base k f fd ps m' :=
  have z : ∀ {us : List V} {H : Hp} {Q : VK} {E : XK}, spM K m' ps.length us H Q E → spM K m ps.length us H Q E := fun ⟨F, S, ds, Q', E', h1, h2, h3, h4, h5, h6⟩ => ⟨F, S, ds, Q', E', h1, h2, h3, h _ _ _ _ h4, h5, h6⟩
  ⟨fun us H Q E q => F.many us H Q E (z q), fun A outer s H args ws us Q E hr e0 hb r hs => F.goes A outer s H args ws us Q E hr e0 hb r (z hs)⟩
/-- a def's body: its room, and what it lets out -/
structure BC (X : Cx) (F0 : Ent) (k : Nat) (E' : XD) : Prop where
  room : Rm k X.A
  calm : X.calm = true
  take : ∃ W : WX, Takes X W ∧ ∀ F' S' H' x cls od (σ : L2.St), σ.length = X.N.length → Ext F0.F F0.S F0.H F' S' H' → SR X.K F' S' H' → ExnRel X.K F' x cls od H' → E' x S' → W cls od σ H'
theorem BC.mono {X : Cx} {F0 : Ent} {j k : Nat} {E' : XD} (B : BC X F0 k E') (h : j ≤ k) : BC X F0 j E' := ⟨B.room.mono h, B.calm, B.take⟩
theorem BC.units {X : Cx} {F0 : Ent} {k : Nat} {E' : XD} (B : BC X F0 k E') : X.A.units + 64 < cLine := (B.room.room (Nat.zero_le _)).units
theorem BC.units1 {X : Cx} {F0 : Ent} {k : Nat} {E' : XD} (B : BC X F0 k E') : X.A.units + 1 < cLine := hu_of (B.room.room (Nat.zero_le _))
theorem takes_len {X : Cx} {W : WX} (t : Takes X W) : Takes X (fun c d σ H => σ.length = X.N.length → W c d σ H) := fun u s' ⟨a, B, sI, pins, σ, H, cls, d, e, I, nb, up, sky, na, os, ag, w⟩ =>
  t u s' ⟨a, B, sI, pins, σ, H, cls, d, e, I, nb, up, sky, na, os, ag, w I.len⟩
theorem BC.pass {X : Cx} {F0 : Ent} {k : Nat} {E' : XD} (B : BC X F0 k E') : ∃ E : XK, Passes (L2.CX X.prog X.w) X E ∧ ∀ F' S' H' x cls od, Ext F0.F F0.S F0.H F' S' H' → SR X.K F' S' H' → ExnRel X.K F' x cls od H' → E' x S' → E cls od H' := by
  obtain ⟨W, tk, hW⟩ := B.take
  exact ⟨fun cls d H => ∀ σ : L2.St, σ.length = X.N.length → W cls d σ H, passes_call (takes_len tk) (fun cls d σ H h hl => h σ hl), fun F' S' H' x cls od xx sr er q σ hl => hW F' S' H' x cls od σ hl xx sr er q⟩
theorem BC.imp {X : Cx} {F0 : Ent} {k : Nat} {E' E'' : XD} (B : BC X F0 k E') (h : ∀ x S, E'' x S → E' x S) : BC X F0 k E'' := by
  obtain ⟨W, tk, hW⟩ := B.take
  exact ⟨B.room, B.calm, W, tk, fun F' S' H' x cls od σ hl xx sr er q => hW F' S' H' x cls od σ hl xx sr er (h _ _ q)⟩
/-- nothing is let out -/
abbrev noX : XD := fun _ _ => False
theorem BC.none {X : Cx} {F0 : Ent} {k : Nat} (hr : Rm k X.A) (hc : X.calm = true) : BC X F0 k noX := ⟨hr, hc, fun _ _ _ _ => False, fun u s' ⟨a, B, sI, pins, σ, H, cls, d, e, I, nb, up, sky, na, os, ag, w⟩ => w.elim, fun _ _ _ _ _ _ _ _ _ _ _ z => z⟩
def tdCall (m : M) (n : Nat) (E' : XD) (t : TDs) : TD := fun ρ S Q => t ρ S fun ds S1 => ds.length = n ∧ m ds S1 Q E'
variable {k : Nat} {E' : XD} {f C : Addr} {fd : FuncData} {ps : List Str} {m : M} {x mn : Str} {apos p : Pos}
theorem call_go {ta : TA} {σ : L2.St} {H : Hp} {Q : VK} {E : XK} (hE : ∀ F' S' H' x cls od, Ext F0.F F0.S F0.H F' S' H' → SR X.K F' S' H' → ExnRel X.K F' x cls od H' → E' x S' → E cls od H')
    {n : Nat} (h : EL X.K F0 (tdCall m n E' tr) σ H Q) (hta : ∀ σ H R, AL X.K F0 tr σ H R → ta σ H R) : tCall (spM X.K m n) [] E ta σ H Q := by
  obtain ⟨F, S, ρ, Q', a, h, p⟩ := h
  refine hta _ _ _ (AL.go a h fun vs H1 F1 S1 ds x1 a1 r1 ⟨q0, q1⟩ => ?_)
  rw [List.append_nil]
  exact ⟨F1, S1, ds, Q', E', a1.sr, r1, q0, q1, p.ext x1, fun F' S' H' y cls od z sr er q => hE F' S' H' y cls od (a1.f0.trans z) sr er q⟩
theorem de_call (G : DF X.prog X.w X.K X.mg X.base k f fd ps m) (B : BC X F0 k E') (hg : Gl X x) (hm : X.mg x = some (.ref f)) (hk : PySem.W.keepIn X.K (.ref f) = true) (hb : Binds X.K fd ps []) (ha : DA X F0 (e :: es) tr)
    (hdb : (x == ("__debug__" : Str)) = false := by decide) (he : starEach (e :: es) X.env = (false, eval e X.env) :: starEach es X.env := by rfl) (hpl : (backTo pos (starEach es X.env)).any (·.1) = false := by rfl) :
    DE X F0 (.Call (.Name x p) (e :: es) [] pos) (tdCall m ps.length E' tr) := by
  obtain ⟨E, hp, hE⟩ := B.pass
  exact PE.weak (pd_call (E := E) G B.room hg hm hk hb hp ha hdb he hpl) fun σ H Q h => call_go hE h fun _ _ _ z => z
theorem de_call0 (G : DF X.prog X.w X.K X.mg X.base k f fd ps m) (B : BC X F0 k E') (hg : Gl X x) (hm : X.mg x = some (.ref f)) (hk : PySem.W.keepIn X.K (.ref f) = true) (hb : Binds X.K fd ps [])
    (hdb : (x == ("__debug__" : Str)) = false := by decide) : DE X F0 (.Call (.Name x p) [] [] pos) (tdCall m ps.length E' tdNil) := by
  obtain ⟨E, hp, hE⟩ := B.pass
  exact PE.weak (pd_call0 (E := E) G B.room hg hm hk hb hp hdb) fun σ H Q h => call_go (tr := tdNil) hE h fun σ H R ⟨F, S, ρ, Q', a, q, p⟩ => p [] H F S [] (Ext.refl _ _ _) a.sr .nil q
/-- o.m(..) -/
def tdMeth (C : Addr) (mn : Str) (m : M) (n : Nat) (E' : XD) (to : TD) (t : TDs) : TD := fun ρ S Q => to ρ S fun x S1 => ∃ a fs, x = .ref a ∧ S1 a = some (.ins C fs) ∧ fs.lookup mn = none ∧ t ρ S1 fun ds S2 => ds.length + 1 = n ∧ m (x :: ds) S2 Q E'
theorem meth_go {ta : TA} {σ : L2.St} {H : Hp} {Q : VK} {E : XK} (hE : ∀ F' S' H' x cls od, Ext F0.F F0.S F0.H F' S' H' → SR X.K F' S' H' → ExnRel X.K F' x cls od H' → E' x S' → E cls od H')
    {n : Nat} (h : EL X.K F0 (tdMeth C mn m n E' to tr) σ H Q) (hta : ∀ σ H R, AL X.K F0 tr σ H R → ta σ H R) : tMeth C mn (spM X.K m n) [] E (EL X.K F0 to) ta σ H Q := by
  obtain ⟨F, S, ρ, Q', a, h, p⟩ := h
  refine EL.go a h fun v H1 F1 S1 d x1 a1 r1 ⟨b, fs, e1, e2, e3, q1⟩ => ?_
  subst e1
  obtain ⟨dx, ws, h1, h2⟩ := a1.sr.ins e2
  refine ⟨b, dx, ws, r1.ref_e, h1, h2.lookup_none e3, hta _ _ _ (AL.go a1 q1 fun vs H2 F2 S2 ds x2 a2 r2 ⟨q0, q2⟩ => ?_)⟩
  rw [List.append_nil]
  exact ⟨F2, S2, _, Q', E', a2.sr, .cons (RelD.mono x2.same _ _ r1) r2, q0, q2, p.ext (x1.trans x2), fun F' S' H' y cls od z sr er q => hE F' S' H' y cls od (a2.f0.trans z) sr er q⟩
theorem de_meth {pl : Sem Bool} (ho : DE X F0 o to) (c : Cls X.K C) (hm : Meth X.K C mn f) (G : DF X.prog X.w X.K X.mg X.base k f fd ps m) (B : BC X F0 k E') (hb : Binds X.K fd ps []) (ha : DA X F0 (e :: es) tr)
    (hst : starEach (e :: es) X.env = (false, eval e X.env) :: starEach es X.env := by rfl) (hpl : (backTo pos (starEach es X.env)).any (·.1) = false := by rfl)
    (ht : eval (.Call (.Attribute o mn apos) (e :: es) [] pos) X.env = (do
      let ov ← eval o X.env
      standAt apos.atName
      let (f, first) ← holding [ov] (getMethod ov mn pl)
      callWith pos f first (backTo pos (starEach (e :: es) X.env)) (backToKw pos (keywordEach [] X.env))) := by rfl) : DE X F0 (.Call (.Attribute o mn apos) (e :: es) [] pos) (tdMeth C mn m ps.length E' to tr) := by
  obtain ⟨E, hp, hE⟩ := B.pass
  exact PE.weak (pd_meth (E := E) ho c hm G B.room hb hp ha hst hpl ht) fun σ H Q h => meth_go hE h fun _ _ _ z => z
theorem de_meth0 {pl : Sem Bool} (ho : DE X F0 o to) (c : Cls X.K C) (hm : Meth X.K C mn f) (G : DF X.prog X.w X.K X.mg X.base k f fd ps m) (B : BC X F0 k E') (hb : Binds X.K fd ps [])
    (ht : eval (.Call (.Attribute o mn apos) [] [] pos) X.env = (do
      let ov ← eval o X.env
      standAt apos.atName
      let (f, first) ← holding [ov] (getMethod ov mn pl)
      callWith pos f first (backTo pos (starEach [] X.env)) (backToKw pos (keywordEach [] X.env))) := by rfl) : DE X F0 (.Call (.Attribute o mn apos) [] [] pos) (tdMeth C mn m ps.length E' to tdNil) := by
  obtain ⟨E, hp, hE⟩ := B.pass
  exact PE.weak (pd_meth0 (E := E) ho c hm G B.room hb hp ht) fun σ H Q h => meth_go hE h fun σ H R ⟨F, S, ρ, Q', a, q, p⟩ => p [] H F S [] (Ext.refl _ _ _) a.sr .nil q
/-- C(..) -/
def tdMake (C : Addr) (m : M) (n : Nat) (E' : XD) (t : TDs) : TD := fun ρ S Q => t ρ S fun ds S1 => ds.length + 1 = n ∧ ∀ a, S1 a = none → m (.ref a :: ds) (sup S1 a (.ins C [])) (fun d S2 => d = .non ∧ Q (.ref a) S2) E'
theorem make_go {ta : TA} {σ : L2.St} {H : Hp} {Q : VK} {E : XK} (hE : ∀ F' S' H' x cls od, Ext F0.F F0.S F0.H F' S' H' → SR X.K F' S' H' → ExnRel X.K F' x cls od H' → E' x S' → E cls od H')
    {n : Nat} (h : EL X.K F0 (tdMake C m n E' tr) σ H Q) (hta : ∀ σ H R, AL X.K F0 tr σ H R → ta σ H R) : tMake C (spM X.K m n) [] E ta σ H Q := by
  obtain ⟨F, S, ρ, Q', a, h, p⟩ := h
  refine hta _ _ _ (AL.go a h fun vs H1 F1 S1 ds x1 a1 r1 ⟨q0, q1⟩ y dx hy hdx hne => ?_)
  rw [List.append_nil]
  have sr1 : SR X.K F1 S1 (upd H1 dx (.own y)) := a1.sr.laid hdx
  have hy1 : (upd H1 dx (.own y)) y = none := by rw [upd_ne hne.symm]; exact hy
  have xl : Ext F1 S1 H1 F1 S1 (upd H1 dx (.own y)) := by
    refine ⟨Same.refl _, fun b u q _ => ?_, fun _ q g => absurd g q, fun _ q => .inl q⟩
    rw [upd_ne]; exact q
    intro z; rw [z, hdx] at q; cases q
  have sr2 := sr1.box (o := .ins C []) (ho := .ins C dx []) hy1 ⟨dx, [], rfl, rfl⟩
  have x2 := xl.trans (sr1.ext_box (o := .ins C []) (ho := .ins C dx []) hy1)
  refine ⟨F1, _, _, _, E', sr2, .cons (.ref_i y) r1, q0, q1 y (a1.sr.snone hy), fun v H' F' S' d z sr rd ⟨e1, q⟩ => ?_, fun F' S' H' w cls od z sr er q => ?_⟩
  · subst e1
    exact ⟨rd.non_e, p.of ((x1.trans x2).trans z) sr (.ref_i y) q⟩
  · exact hE F' S' H' w cls od (a1.f0.trans (x2.trans z)) sr er q
theorem de_make (Mk' : Mk X.K C f) (G : DF X.prog X.w X.K X.mg X.base k f fd ps m) (B : BC X F0 (k + 1) E') (hg : Gl X x) (hm : X.mg x = some (.ref C)) (hb : Binds X.K fd ps []) (ha : DA X F0 (e :: es) tr)
    (hdb : (x == ("__debug__" : Str)) = false := by decide) (he : starEach (e :: es) X.env = (false, eval e X.env) :: starEach es X.env := by rfl) (hpl : (backTo pos (starEach es X.env)).any (·.1) = false := by rfl) :
    DE X F0 (.Call (.Name x p) (e :: es) [] pos) (tdMake C m ps.length E' tr) := by
  obtain ⟨E, hp, hE⟩ := B.pass
  exact PE.weak (pd_make (E := E) Mk' G B.room hg hm hb hp ha hdb he hpl) fun σ H Q h => make_go hE h fun _ _ _ z => z
end
end DL
namespace DL
open PySem PySem.Spec L2
/-- an iterator that walks the data ds while the frozen heap stands -/
structure Iters (K : PySem.W.Frag) (F : Hp) (J : It) (ds : List D) : Prop where
  go : ∀ i H, Same F H → i < ds.length → J.go i H
  stop : ∀ i H, Same F H → ds.length ≤ i → J.stop i H
  yld : ∀ i x H H' F2 S, Same F F2 → SR K F2 S H → J.yld i H x H' → i < ds.length → ∃ F3 d, Ext F2 S H F3 S H' ∧ SR K F3 S H' ∧ ds[i]? = some d ∧ RelD K F3 d x
abbrev TDI := Rho → Store → (List D → Store → Prop) → Prop
def IL (K : PySem.W.Frag) (F0 : Ent) (t : TDI) : TI := fun σ H R => ∃ F S ρ Q', At K F0 F S H ρ σ ∧ t ρ S Q' ∧ ∀ J H' F' S' ds, Ext F S H F' S' H' → SR K F' S' H' → Iters K F' J ds → Q' ds S' → R J H'
def DI (X : Cx) (F0 : Ent) (tg it : Expr) (t : TDI) : Prop := PI X tg it (IL X.K F0 t)
theorem PI.weak {X : Cx} {tg it : Expr} {w w' : TI} (h : PI X tg it w) (k : ∀ σ H R, w' σ H R → w σ H R) : PI X tg it w' := ⟨fun pins s σ H R I q => h.run pins s σ H R I (k _ _ _ q)⟩
theorem IL.go {K : PySem.W.Frag} {F0 : Ent} {F : Hp} {S : Store} {H : Hp} {ρ : Rho} {σ : L2.St} {t : TDI} {R : It → Hp → Prop} {Q1 : List D → Store → Prop} (a : At K F0 F S H ρ σ) (h : t ρ S Q1)
    (n : ∀ J H1 F1 S1 ds, Ext F S H F1 S1 H1 → At K F0 F1 S1 H1 ρ σ → Iters K F1 J ds → Q1 ds S1 → R J H1) : IL K F0 t σ H R :=
  ⟨F, S, ρ, Q1, a, h, fun J H1 F1 S1 ds x r it q => n J H1 F1 S1 ds x (a.next x r) it q⟩
section
variable {K : PySem.W.Frag} {F : Hp}
theorem Iters.lst {a : Addr} {vs : List V} {ds : List D} (h : ∀ H, Same F H → SqL K H a vs) (r : RelDs K F ds vs) : Iters K F (Itl K a) ds where
  go := fun i H sm hi => by
    obtain ⟨v, h1, h2⟩ := r.get (List.getElem?_eq_getElem hi)
    exact ⟨vs, v, h H sm, h1⟩
  stop := fun i H sm hi => ⟨vs, h H sm, by rw [r.length]; exact hi⟩
  yld := fun i x H H' F2 S sm sr y hi => by
    obtain ⟨rfl, y⟩ := y
    obtain ⟨d, h1, h2⟩ := r.get' (y vs (h _ (sm.trans sr.fro)))
    exact ⟨F2, d, Ext.refl _ _ _, sr, h1, RelD.mono sm _ _ h2⟩
theorem Iters.tup {a : Addr} {vs : List V} {ds : List D} (h : ∀ H, Same F H → SqT K H a vs) (r : RelDs K F ds vs) : Iters K F (Itt K a) ds where
  go := fun i H sm hi => by
    obtain ⟨v, h1, h2⟩ := r.get (List.getElem?_eq_getElem hi)
    exact ⟨vs, v, h H sm, h1⟩
  stop := fun i H sm hi => ⟨vs, h H sm, by rw [r.length]; exact hi⟩
  yld := fun i x H H' F2 S sm sr y hi => by
    obtain ⟨rfl, y⟩ := y
    obtain ⟨d, h1, h2⟩ := r.get' (y vs (h _ (sm.trans sr.fro)))
    exact ⟨F2, d, Ext.refl _ _ _, sr, h1, RelD.mono sm _ _ h2⟩
/-- the ints of a range -/
def rngD (lo : Int) (n : Nat) : List D := (List.range n).map fun (i : Nat) => D.int (lo + (i : Int))
theorem Iters.rng (lo : Int) (n : Nat) : Iters K F (Itr lo n) (rngD lo n) where
  go := fun i H _ hi => by
    have h : i < n := by simpa [rngD] using hi
    exact h
  stop := fun i H _ hi => by
    have h : n ≤ i := by simpa [rngD] using hi
    exact h
  yld := fun i x H H' F2 S sm sr y hi => by
    obtain ⟨rfl, rfl⟩ := y
    have hi' : i < n := by simpa [rngD] using hi
    exact ⟨F2, .int (lo + i), Ext.refl _ _ _, sr, by simp [rngD, hi'], .int_i _⟩
end
section
variable {X : Cx} {F0 : Ent} {tg e it : Expr} {es : List Expr} {t : TD} {tr : TDs} {pos : Pos}
def tdiL (t : TD) : TDI := fun ρ S Q => t ρ S fun x S1 => match x with
  | .lst ds => Q ds S1
  | _ => False
def tdiT (t : TD) : TDI := fun ρ S Q => t ρ S fun x S1 => match x with
  | .tup ds => Q ds S1
  | _ => False
theorem di_lst (he : DE X F0 e t) : DI X F0 tg e (tdiL t) := PI.weak (pi_list he) fun σ H R ⟨F, S, ρ, Q', a, h, p⟩ => EL.go a h fun v H1 F1 S1 d x1 a1 r1 q1 => by
  split at q1
  · obtain ⟨b, vs, rfl, h1, h2⟩ := r1.lst_e
    exact ⟨b, rfl, ⟨vs, .of (a1.sr.fro _ _ h1)⟩, p _ _ _ _ _ x1 a1.sr (.lst (fun H sm => .of (sm _ _ h1)) h2) q1⟩
  · exact q1.elim
theorem di_tup (he : DE X F0 e t) : DI X F0 tg e (tdiT t) := PI.weak (pi_tup he) fun σ H R ⟨F, S, ρ, Q', a, h, p⟩ => EL.go a h fun v H1 F1 S1 d x1 a1 r1 q1 => by
  split at q1
  · obtain ⟨b, vs, rfl, h1, h2⟩ := r1.tup_e
    exact ⟨b, rfl, ⟨vs, seqT a1.sr.fro h1⟩, p _ _ _ _ _ x1 a1.sr (.tup (fun H sm => seqT sm h1) h2) q1⟩
  · exact q1.elim
def tdiR (t : TDs) : TDI := fun ρ S Q => t ρ S fun ds S1 => match ds with
  | [.int j] => -(2 ^ 62) ≤ j ∧ j < 2 ^ 62 ∧ Q (rngD 0 j.toNat) S1
  | _ => False
theorem di_rng {a : Expr} {p : Pos} (hg : Gl X "range") (hm : X.mg "range" = none) (ha : DA X F0 [a] tr) (hs : starEach [a] X.env = [(false, eval a X.env)] := by rfl) : DI X F0 tg (.Call (.Name "range" p) [a] [] pos) (tdiR tr) :=
  PI.weak (pi_range1 hg hm ha hs) fun σ H R ⟨F, S, ρ, Q', a, h, p⟩ => AL.go a h fun vs H1 F1 S1 ds x1 a1 r1 q1 => by
    split at q1
    · obtain ⟨v, rfl, rv⟩ := rds1 r1
      obtain rfl := rv.int_e
      exact ⟨_, rfl, q1.1, q1.2.1, p _ _ _ _ _ x1 a1.sr (.rng _ _) q1.2.2⟩
    · exact q1.elim
def tdiR2 (t : TDs) : TDI := fun ρ S Q => t ρ S fun ds S1 => match ds with
  | [.int i, .int j] => (-(2 ^ 62) ≤ i ∧ i < 2 ^ 62 ∧ -(2 ^ 62) ≤ j ∧ j < 2 ^ 62) ∧ Q (rngD i (j - i).toNat) S1
  | _ => False
theorem di_rng2 {a b : Expr} {p : Pos} (hg : Gl X "range") (hm : X.mg "range" = none) (ha : DA X F0 [a, b] tr) (hs : starEach [a, b] X.env = [(false, eval a X.env), (false, eval b X.env)] := by rfl) (hs2 : starEach [b] X.env = [(false, eval b X.env)] := by rfl) : DI X F0 tg (.Call (.Name "range" p) [a, b] [] pos) (tdiR2 tr) :=
  PI.weak (pi_range2 hg hm ha hs hs2) fun σ H R ⟨F, S, ρ, Q', a, h, p⟩ => AL.go a h fun vs H1 F1 S1 ds x1 a1 r1 q1 => by
    split at q1
    · obtain ⟨v, w, rfl, rv, rw'⟩ := rds2 r1
      obtain rfl := rv.int_e
      obtain rfl := rw'.int_e
      exact ⟨_, _, rfl, q1.1, p _ _ _ _ _ x1 a1.sr (.rng _ _) q1.2⟩
    · exact q1.elim
def forR (g : TDG) (tb : TDS) (D : DEnds) : List DL.D → Rho → Store → Prop
  | [], ρ, S => D.nx ρ S
  | d :: ds, ρ, S => g d ρ S fun ρ1 S1 => tb { D with nx := forR g tb D ds, ct := forR g tb D ds, bk := D.nx } ρ1 S1
def tdFor (ti : TDI) (g : TDG) (tb : TDS) : TDS := fun D ρ S => ti ρ S fun ds S1 => forR g tb D ds ρ S1
theorem ds_for {iter : Expr} {body : List Stmt} {ti : TDI} {g : TDG} {tb : TDS} (hp : PassesOwn (model X.prog X.w) X.A X.env X.xe) (hc : X.calm = true) (hi : DI X F0 tg iter ti) (hg : DG X F0 tg g) (hb : DSs X F0 body tb)
    (hs : ∀ x, foldedSetIterable iter X.env x = pure x := by intro _; rfl) : DS X F0 (.For tg iter body [] pos) (tdFor ti g tb) :=
  PS.weak (ps_for hp hc hi hg hb hs) fun D σ H ⟨F, S, ρ, D', a, h, p⟩ => IL.go a h fun J H1 F1 S1 ds x1 a1 it q1 => by
    refine ⟨fun i m σ H => m = ds.length - i ∧ i ≤ ds.length ∧ ∃ F S ρ, Ext F1 S1 H1 F S H ∧ At X.K F0 F S H ρ σ ∧ forR g tb D' (ds.drop i) ρ S, ⟨ds.length, by omega, Nat.zero_le _, F1, S1, ρ, Ext.refl _ _ _, a1, q1⟩, ?_⟩
    rintro i m σ2 H2 ⟨rfl, hi, F2, S2, ρ2, x2, a2, q2⟩
    have sm : Same F1 H2 := x2.same.trans a2.sr.fro
    by_cases hlt : i < ds.length
    · refine .inr ⟨it.go i H2 sm hlt, fun σ H => ∃ F S ρ, Ext F1 S1 H1 F S H ∧ At X.K F0 F S H ρ σ ∧ forR g tb D' (ds.drop (i + 1)) ρ S, fun σ' H' n => ⟨ds.length - (i + 1), by omega, rfl, hlt, n⟩, fun x H' y => ?_⟩
      obtain ⟨F3, d, x3, sr3, hd, rd⟩ := it.yld i x H2 H' F2 S2 x2.same a2.sr y hlt
      have e : ds.drop i = d :: ds.drop (i + 1) := by
        rw [List.drop_eq_getElem_cons hlt]
        congr 1
        rw [List.getElem?_eq_getElem hlt] at hd
        exact Option.some.inj hd
      rw [e] at q2
      have a3 := a2.next x3 sr3
      refine ⟨F3, S2, ρ2, d, _, a3, rd, q2, fun σ4 H4 F4 S4 ρ4 x4 sr4 ev4 q4 => ?_⟩
      have x14 := (x2.trans x3).trans x4
      have a4 : At X.K F0 F4 S4 H4 ρ4 σ4 := ⟨a3.f0.trans x4, sr4, ev4⟩
      refine ⟨F4, S4, ρ4, _, a4, q4, ?_, ?_, ?_, ?_⟩
      · intro σ5 H5 F5 S5 ρ5 x5 sr5 ev5 q5
        exact ⟨F5, S5, ρ5, x14.trans x5, ⟨a4.f0.trans x5, sr5, ev5⟩, q5⟩
      · intro v5 H5 F5 S5 d5 x5 sr5 rd5 q5
        exact p.2.1 _ _ _ _ _ (x1.trans (x14.trans x5)) sr5 rd5 q5
      · intro σ5 H5 F5 S5 ρ5 x5 sr5 ev5 q5
        exact p.1 _ _ _ _ _ (x1.trans (x14.trans x5)) sr5 ev5 q5
      · intro σ5 H5 F5 S5 ρ5 x5 sr5 ev5 q5
        exact ⟨F5, S5, ρ5, x14.trans x5, ⟨a4.f0.trans x5, sr5, ev5⟩, q5⟩
    · refine .inl ⟨it.stop i H2 sm (by omega), ?_⟩
      rw [List.drop_eq_nil_of_le (by omega)] at q2
      exact p.nx (x1.trans x2) a2 q2
def whileN (c : TDT) (tb : TDS) (D : DEnds) : Nat → Rho → Store → Prop
  | 0, _, _ => False
  | n + 1, ρ, S => c ρ S fun b S1 => if b = true then tb { D with nx := whileN c tb D n, ct := whileN c tb D n, bk := D.nx } ρ S1 else D.nx ρ S1
def tdWhile (c : TDT) (tb : TDS) : TDS := fun D ρ S => ∃ n, whileN c tb D n ρ S
theorem ds_while {c : Expr} {body : List Stmt} {tc : TDT} {tb : TDS} (hp : PassesOwn (model X.prog X.w) X.A X.env X.xe) (hc : DT X F0 c tc) (hb : DSs X F0 body tb) : DS X F0 (.While c body [] pos) (tdWhile tc tb) :=
  PS.weak (ps_while hp hc hb) fun D σ H ⟨F1, S1, ρ, D', a1, ⟨n, h⟩, p⟩ => by
    refine ⟨fun m σ H' => ∃ F S ρ, Ext F1 S1 H F S H' ∧ At X.K F0 F S H' ρ σ ∧ whileN tc tb D' m ρ S, ⟨n, F1, S1, ρ, Ext.refl _ _ _, a1, h⟩, ?_⟩
    rintro m σ2 H2 ⟨F2, S2, ρ2, x2, a2, q2⟩
    cases m with
    | zero => exact q2.elim
    | succ m =>
      refine TL.go a2 q2 fun b H3 F3 S3 x3 a3 q3 => ?_
      cases b with
      | false => exact iteF (p.nx (x2.trans x3) a3 q3)
      | true =>
        refine iteT ⟨fun σ H' => ∃ F S ρ, Ext F1 S1 H F S H' ∧ At X.K F0 F S H' ρ σ ∧ whileN tc tb D' m ρ S, fun σ' H' q => ⟨m, Nat.lt_succ_self _, q⟩, F3, S3, ρ2, _, a3, q3, ?_, ?_, ?_, ?_⟩
        · intro σ5 H5 F5 S5 ρ5 x5 sr5 ev5 q5
          exact ⟨F5, S5, ρ5, (x2.trans x3).trans x5, ⟨a3.f0.trans x5, sr5, ev5⟩, q5⟩
        · intro v5 H5 F5 S5 d5 x5 sr5 rd5 q5
          exact p.2.1 _ _ _ _ _ ((x2.trans x3).trans x5) sr5 rd5 q5
        · intro σ5 H5 F5 S5 ρ5 x5 sr5 ev5 q5
          exact p.1 _ _ _ _ _ ((x2.trans x3).trans x5) sr5 ev5 q5
        · intro σ5 H5 F5 S5 ρ5 x5 sr5 ev5 q5
          exact ⟨F5, S5, ρ5, (x2.trans x3).trans x5, ⟨a3.f0.trans x5, sr5, ev5⟩, q5⟩
def lcR (v : Nat) (tt : TDT) (te : TD) (ρ : Rho) : List D → List D → Store → (List D → Store → Prop) → Prop
  | [], acc, S, Q => Q acc S
  | d :: ds, acc, S, Q => tt (ρ.set v (some d)) S fun b S1 => if b = true then te (ρ.set v (some d)) S1 fun y S2 => acc.length < sizeLine ∧ lcR v tt te ρ ds (acc ++ [y]) S2 Q else lcR v tt te ρ ds acc S1 Q
def tdLc (ti : TDI) (v : Nat) (tt : TDT) (te : TD) : TD := fun ρ S Q => ti ρ S fun ds S1 => lcR v tt te ρ ds [] S1 fun ys S2 => Q (.lst ys) S2
def DTs (X : Cx) (F0 : Ent) (ifs : List Expr) (t : TDT) : Prop := PTs X ifs (TL X.K F0 t)
def tdYes : TDT := fun _ S Q => Q true S
theorem PTs.weak {ifs : List Expr} {t t' : TT} (h : PTs X ifs t) (w : ∀ σ H Q, t' σ H Q → t σ H Q) : PTs X ifs t' := ⟨fun pins s σ H Q I q => h.run pins s σ H Q I (w _ _ _ q)⟩
theorem dts_nil : DTs X F0 [] tdYes := PTs.weak pts_nil fun σ H Q ⟨F, S, ρ, Q', a, h, p⟩ => p true H F S (Ext.refl _ _ _) a.sr h
theorem dts_one {c : Expr} {tt : TDT} (h : DT X F0 c tt) : DTs X F0 [c] tt := pts_one h
theorem Ext.reset {K : PySem.W.Frag} {F1 F : Hp} {S1 S : Store} {H1 H : Hp} {p : Addr} {o1 o2 : HO} (x : Ext F1 S1 (upd H1 p o1) F S H) : Ext F1 S1 (upd H1 p o2) F S (upd H p o2) where
  same := x.same
  off := fun b u q n => by
    by_cases z : b = p
    · subst z; rw [upd_same] at q ⊢; exact q
    · rw [upd_ne z] at q ⊢; exact x.off b u (by rw [upd_ne z]; exact q) n
  newF := fun b q g => by
    rcases x.newF b q g with z | z
    · exact .inl z
    · by_cases e : b = p
      · subst e; rw [upd_same] at z; cases z
      · rw [upd_ne e] at z ⊢; exact .inr z
  newS := fun b q => by
    rcases x.newS b q with z | z
    · exact .inl z
    · by_cases e : b = p
      · subst e; rw [upd_same] at z; cases z
      · rw [upd_ne e] at z ⊢; exact .inr z
theorem SR.re {K : PySem.W.Frag} {F : Hp} {S : Store} {H : Hp} {p : Addr} {o : HO} (sr : SR K F S H) (hF : F p = none) (hS : S p = none) : SR K F S (upd H p o) where
  fro := fun b u q => by
    rw [upd_ne]; exact sr.fro b u q
    intro z; rw [z, hF] at q; cases q
  obj := fun b u q => by
    obtain ⟨h1, ho', h2, h3⟩ := sr.obj b u q
    have z : b ≠ p := by intro z; rw [z, hS] at q; cases q
    rw [upd_ne z]; exact ⟨h1, ho', h2, h3⟩
theorem upd_id {H : Hp} {a : Addr} {o : HO} (h : H a = some o) : upd H a o = H := by
  funext b; unfold upd
  by_cases e : b = a
  · rw [if_pos e, e, h]
  · rw [if_neg e]
theorem lc_go {ti : TDI} {v : Nat} {tt : TDT} {te : TD} {K : PySem.W.Frag} {σ : L2.St} {H : Hp} {Q : VK} (h : EL K F0 (tdLc ti v tt te) σ H Q) : tLc (IL K F0 ti) (gName v) (TL K F0 tt) (EL K F0 te) [v] σ H Q := by
  obtain ⟨F, S, ρ, Q', a, h, p⟩ := h
  refine IL.go a h fun J H1 F1 S1 ds x1 a1 it q1 D hD => ?_
  refine ⟨fun i m H => m = ds.length - i ∧ i ≤ ds.length ∧ ∃ F S acc vs, Ext F1 S1 (upd H1 D (.lst vs)) F S H ∧ SR K F S H ∧ RelDs K F acc vs ∧ lcR v tt te ρ (ds.drop i) acc S fun ys S2 => Q' (.lst ys) S2,
    ⟨ds.length, by omega, Nat.zero_le _, F1, S1, [], [], Ext.refl _ _ _, a1.sr.laid hD, .nil, q1⟩, ?_⟩
  rintro i m H2 ⟨rfl, hi, F2, S2, acc, vs, x2, sr2, racc, q2⟩
  have sm : Same F1 H2 := x2.same.trans sr2.fro
  obtain ⟨nF, nS, hH⟩ := x2.laid_none a1.sr hD
  by_cases hlt : i < ds.length
  · refine .inr ⟨it.go i H2 sm hlt, fun H => ∃ F S acc vs, Ext F1 S1 (upd H1 D (.lst vs)) F S H ∧ SR K F S H ∧ RelDs K F acc vs ∧ lcR v tt te ρ (ds.drop (i + 1)) acc S fun ys S2 => Q' (.lst ys) S2, fun H' n => ⟨ds.length - (i + 1), by omega, rfl, hlt, n⟩, fun x H' y => ?_⟩
    obtain ⟨F3, d, x3, sr3, hd, rd⟩ := it.yld i x H2 H' F2 S2 x2.same sr2 y hlt
    have e : ds.drop i = d :: ds.drop (i + 1) := by
      rw [List.drop_eq_getElem_cons hlt]
      congr 1
      rw [List.getElem?_eq_getElem hlt] at hd
      exact Option.some.inj hd
    rw [e] at q2
    have x13 : Ext F1 S1 (upd H1 D (.lst vs)) F3 S2 H' := x2.trans x3
    have a3 : At K F0 F3 S2 H' (ρ.set v (some d)) ((wipe σ [v]).set v (some x)) := by
      refine ⟨a1.f0.trans ((Ext.laid hD).trans x13), sr3, ?_⟩
      have h0 : (wipe σ [v]).set v (some x) = σ.set v (some x) := by
        show (σ.set v none).set v (some x) = _
        rw [List.set_set]
      rw [h0]
      exact (a1.env.mono x13.same).set rd v
    refine ⟨?_, ?_⟩
    · show ((σ.set v none).set v (some x)).set v none = σ.set v none
      rw [List.set_set, List.set_set]
    · refine TL.go a3 q2 fun b H4 F4 S4 x4 a4 q4 => ?_
      cases b with
      | false => exact iteF ⟨F4, S4, acc, vs, x13.trans x4, a4.sr, RelDs.mono x4.same _ _ (RelDs.mono x3.same _ _ racc), q4⟩
      | true =>
        refine iteT (EL.go a4 q4 fun w H5 F5 S5 yd x5 a5 r5 ⟨hl, q5⟩ => ?_)
        have x15 := (x13.trans x4).trans x5
        obtain ⟨nF5, nS5, hH5⟩ := x15.laid_none a1.sr hD
        have racc5 := RelDs.mono x5.same _ _ (RelDs.mono x4.same _ _ (RelDs.mono x3.same _ _ racc))
        refine ⟨vs, hH5, by rw [racc5.length]; exact hl, ?_⟩
        exact ⟨F5, S5, acc ++ [yd], vs ++ [w], Ext.reset (K := K) x15, a5.sr.re nF5 nS5, racc5.append (.cons r5 .nil), q5⟩
  · refine .inl ⟨it.stop i H2 sm (by omega), ?_⟩
    rw [List.drop_eq_nil_of_le (by omega)] at q2
    obtain ⟨k1, k2⟩ := sr2.adoptF (ho := .lst vs) nF nS
    have k3 := x2.adoptF (ho := .lst vs) hD nF
    rw [upd_id hH] at k1 k3
    exact p.of (x1.trans k3) k1 (RelD.lst_i upd_same (RelDs.mono k2 _ _ racc)) q2
theorem de_lc {elt iter : Expr} {ifs : List Expr} {scope : Scope} {x : Str} {xp : Pos} {v : Nat} {ti : TDI} {tt : TDT} {te : TD} (hc : X.calm = true) (hN : X.N.Nodup) (hi : DI X F0 (.Name x xp) iter ti) (ok : BlkOk X.N X.env.scope scope [(x, v)])
    (hg : ∀ (s : Shared) (H : Hp) (C : Addr) (cl : List (Str × Addr)) (fp : List Addr), PG (X.blk s H scope (compEnvC scope cl C X.env) fp) (.Name x xp) (gName v))
    (ht : ∀ (s : Shared) (H : Hp) (C : Addr) (cl : List (Str × Addr)) (fp : List Addr), DTs (X.blk s H scope (compEnvC scope cl C X.env) fp) F0 ifs tt)
    (he : ∀ (s : Shared) (H : Hp) (C : Addr) (cl : List (Str × Addr)) (fp : List Addr), DE (X.blk s H scope (compEnvC scope cl C X.env) fp) F0 elt te) (hs : ∀ x, foldedSetIterable iter X.env x = pure x := by intro _; rfl) :
    DE X F0 (.ListComp elt [⟨.Name x xp, iter, ifs, 0⟩] scope pos) (tdLc ti v tt te) :=
  PE.weak (pe_lc (own := [(x, v)]) (tt := TL X.K F0 tt) (te := EL X.K F0 te) hc hN hi ok hg ht he hs) fun σ H Q h => lc_go h
theorem ds_setLc (i : Nat) {y : Str} {py : Pos} {elt iter : Expr} {ifs : List Expr} {scope : Scope} {x : Str} {xp spos : Pos} {v : Nat} {ti : TDI} {tt : TDT} {te : TD} (hc : X.calm = true) (hN : X.N.Nodup) (hy : X.N[i]? = some y) (hyl : X.env.scope.names.lookup y = some .local)
    (hsw : swapsWith (.ListComp elt [⟨.Name x xp, iter, ifs, 0⟩] scope pos) (some (.Name y py)) spos.line X.env = pure true) (hi : DI X F0 (.Name x xp) iter ti) (ok : BlkOk X.N X.env.scope scope [(x, v)])
    (hg : ∀ (s : Shared) (H : Hp) (C : Addr) (cl : List (Str × Addr)) (fp : List Addr), PG (X.blk s H scope (compEnvC scope cl C X.env) fp) (.Name x xp) (gName v))
    (ht : ∀ (s : Shared) (H : Hp) (C : Addr) (cl : List (Str × Addr)) (fp : List Addr), DTs (X.blk s H scope (compEnvC scope cl C X.env) fp) F0 ifs tt)
    (he : ∀ (s : Shared) (H : Hp) (C : Addr) (cl : List (Str × Addr)) (fp : List Addr), DE (X.blk s H scope (compEnvC scope cl C X.env) fp) F0 elt te) (hs : ∀ x, foldedSetIterable iter X.env x = pure x := by intro _; rfl) :
    DS X F0 (.Assign [.Name y py] (.ListComp elt [⟨.Name x xp, iter, ifs, 0⟩] scope pos) spos) (tdAsg (tdLc ti v tt te) (gdName i)) :=
  PS.weak (ps_setLc (own := [(x, v)]) (tt := TL X.K F0 tt) (te := EL X.K F0 te) hc hN hy hyl hsw hi ok hg ht he hs) fun D σ H ⟨F, S, ρ, D', a, h, p⟩ => by
    show tLc _ _ _ _ _ σ H _
    exact lc_go (EL.go a h fun w H1 F1 S1 d x1 a1 r1 q1 => p.1 _ _ _ _ _ x1 a1.sr (a1.env.set r1 i) q1)
end
/-- at a def's end: what is left over is forgotten; a list that only the end knows is data -/
def Fini (Q : D → Store → Prop) : D → Store → Prop := fun d S => (∃ S', Sub S' S ∧ Q d S') ∨ ∃ a ds S', d = .ref a ∧ S a = some (.lst ds) ∧ Sub S' S ∧ S' a = none ∧ Q (.lst ds) S'
theorem Fini.of {Q : D → Store → Prop} {d : D} {S : Store} (h : Q d S) : Fini Q d S := .inl ⟨S, Sub.refl S, h⟩
def startD (N : List Str) (ds : List D) : Rho := ds.map some ++ List.replicate (N.length - ds.length) none
section
variable {P : Program} {w : World} {K : PySem.W.Frag} {mg : Str → Option Value} {base : Heap}
theorem fini_go {F : Hp} {S : Store} {H : Hp} {Q' : D → Store → Prop} {Q : VK} (p : Post K F S H Q' Q) {F1 : Hp} {S1 : Store} {H1 : Hp} {d : D} {v : V} (x : Ext F S H F1 S1 H1) (sr : SR K F1 S1 H1) (rd : RelD K F1 d v) (q : Fini Q' d S1) : Q v H1 := by
  rcases q with ⟨S', hs, q⟩ | ⟨a, ds, S', rfl, e, hs, hn, q⟩
  · exact p.of (x.trans (SR.ext_sub hs)) (sr.sub hs) rd q
  · obtain ⟨F', k1, k2, k3⟩ := sr.freeze e
    have hs' : Sub S' (sdel S1 a) := fun b u h => by
      unfold sdel
      rw [if_neg]; exact hs b u h
      intro z; rw [z, hn] at h; cases h
    rw [rd.ref_e]
    exact p.of ((x.trans k2).trans (SR.ext_sub hs')) (k1.sub hs') k3 q
theorem startD_rel {F : Hp} {N : List Str} {ds : List D} {vs : List V} (r : RelDs K F ds vs) : RelE K F (startD N ds) (L2.start N vs) := by
  unfold startD L2.start
  refine ⟨by simp [r.length], fun i d h => ?_⟩
  have hl := r.length
  by_cases hi : i < ds.length
  · rw [List.getElem?_append_left (by simpa using hi), List.getElem?_map] at h
    cases q : ds[i]? with
    | none => rw [q] at h; cases h
    | some d' =>
      rw [q] at h; cases h
      obtain ⟨v, h1, h2⟩ := r.get q
      refine ⟨v, ?_, h2⟩
      rw [List.getElem?_append_left (by simp; omega), List.getElem?_map, h1]; rfl
  · rw [List.getElem?_append_right (by simp; omega), List.getElem?_replicate] at h
    split at h <;> cases h
theorem df_of {x qual : Str} {st : Stmt} {f : Addr} {fd : FuncData} {N ps : List Str} {k : Nat} {m : M} {t : XD → TDS} (Fn : Fun K x qual st f fd) (Sc : FnScope N ps (defScope st))
    (body : ∀ (cdv : Value) (A : Around) (outer : List Env) (s : Shared) (H : Hp) (E : XK) (F0 : Ent) (E' : XD), BC (cxOf (L2.CX P w) P w K mg base N qual (defScope st) f cdv A outer s H E) F0 k E' →
      DSs (cxOf (L2.CX P w) P w K mg base N qual (defScope st) f cdv A outer s H E) F0 (defBody st) (t E'))
    (read : ∀ (ds : List D) (S : Store) (Q : D → Store → Prop) (E : XD), ds.length = ps.length → m ds S Q E → t E { nx := fun _ S' => Fini Q .non S', rt := Fini Q } (startD N ds) S) :
    DF P w K mg base (k + 1) f fd ps m := by
  refine fnd_of Fn Sc (fun vs H Q E ⟨F, S, ds, Q', E', h1, h2, h3, h4, h5, h6⟩ => by rw [h2.length, h3]) fun cdv A outer s H vs Q E hr ⟨F, S, ds, Q', E', h1, h2, h3, h4, h5, h6⟩ => ?_
  have B : BC (cxOf (L2.CX P w) P w K mg base N qual (defScope st) f cdv A outer s H E) ⟨F, S, H⟩ k E' :=
    ⟨hr, rfl, _, takes_of rfl rfl rfl rfl, fun F' S' H' y cls od σ hl z sr er q => h6 F' S' H' y cls od z sr er q⟩
  refine ⟨_, body cdv A outer s H E ⟨F, S, H⟩ E' B, F, S, startD N ds, _, ⟨Ext.refl _ _ _, h1, startD_rel h2⟩, read ds S Q' E' h3 h4, ?_, ?_, ?_, ?_⟩
  · exact fun σ' H' F' S' ρ' z sr ev q => fini_go h5 z sr .non_i q
  · exact fun v H' F' S' d z sr rd q => fini_go h5 z sr rd q
  · exact fun _ _ _ _ _ _ _ _ q => q
  · exact fun _ _ _ _ _ _ _ _ q => q
end
end DL
namespace DL
open PySem PySem.Spec L2
/-- what stands of the class C and its __init__ -/
structure RF (P : Program) (K : PySem.W.Frag) (qual : Str) (st : Stmt) (C fI cc cda : Addr) (fd : FuncData) : Prop where
  T : OexC K C
  init : PySem.W.findIn K (.ref C) "__init__" = some (some (.ref fI))
  tI : PySem.W.typeIn K (.ref fI) = some (.type "function")
  fn : ∃ (oc : Value) (od : Option Addr) (kV doc pm : Value) (an : Option Addr) (ct : Value) (osl : Array (Option Value)), fd = PySem.W.ksFn "__init__" qual (defArgs st) (defBody st) (defScope st) .none kV doc pm an (.ref cda) ct cc ∧ K.lookup fI = some ⟨oc, od, .func fd, osl⟩
  code : PySem.W.codeIn K (.ref cda) qual = true
  file : ∃ (oc : Value) (od : Option Addr) (vs : Array Value) (sl : Array (Option Value)) (tf : Tok), K.lookup cda = some ⟨oc, od, .fields vs, sl⟩ ∧ vs[2]? = some (.str P.main.file tf)
  cell : ∃ (cl : Value) (cld : Option Addr) (csl : Array (Option Value)), K.lookup cc = some ⟨cl, cld, .cell (some (.ref C)), csl⟩
  sup : PySem.W.ks_superIn K C C "__init__" = some (some (.builtin "ValueError.__init__"))
  tp : PySem.W.nsIn K cStatics "thirdparty.any" = some none
  top : (P.main.scope.names.lookup ("super" : Str)).isSome = false
  subVE : PySem.W.subIn K (.ref C) (.type "ValueError") = some true
  noPos : PySem.W.findIn K (.ref C) "position" = some none
  mroC : PySem.W.mroIn K C (.ref C) = some true
section
variable {P : Program} {w : World} {K : PySem.W.Frag} {mg : Str → Option Value} {base : Heap}
/-- the context of that __init__'s body -/
def cxI (P : Program) (w : World) (K : PySem.W.Frag) (mg : Str → Option Value) (base : Heap) (qual : Str) (scope : Scope) (fI cda cc : Addr) (A : Around) (outer : List Env) (s : Shared) (H : Hp) : Cx where
  prog := P
  w := w
  K := K
  mg := mg
  base := base
  A := A.deeper (PySem.W.ksEnv qual scope s.heap.objs.size fI (.ref cda) cc)
  N := ["self", "position"]
  s_0 := s
  H_0 := H
  env := PySem.W.ksEnv qual scope s.heap.objs.size fI (.ref cda) cc
  outer := outer
  stack := PySem.W.ksEnv qual scope s.heap.objs.size fI (.ref cda) cc :: outer
  ex := []
  calm := true
  fn := fun _ => false
  pn := []
  xe := fun _ _ => False
theorem cxI_inv {qual : Str} {scope : Scope} {fI cda cc : Addr} {A : Around} {outer : List Env} {s : Shared} {H : Hp} {h₀ : Heap} {a : V} {i : V} {u v : Value} {ocl : Obj} {vcl : Option Value} {tk : Nat}
    (hk : scope.kind = .function) (hfree : ∀ y ∈ scope.names, y.2 = .cell ∨ y.2 = .free → y.1 = "__class__") (hself : scope.names.lookup ("self" : Str) = some .local) (hpos : scope.names.lookup ("position" : Str) = some .local)
    (hd : A.handled = none) (e0 : Env0 P w K mg base A outer s H) (hcc : K.lookup cc = some ocl) (hcv : ocl.data = .cell vcl) (ra : RelV a u) (ri : RelV i v)
    (hns : h₀.Ns s.heap.objs.size (fun x => ([("self", u), ("position", v)] : List (Str × Value)).reverse.lookup x)) (keep : ∀ b o, s.heap.get? b = some o → h₀.get? b = some o) :
    Inv (cxI P w K mg base qual scope fI cda cc A outer s H) [] [some a, some i] H { s with heap := h₀, toks := tk } := by
  have hcb : base.get? cc = some ocl := e0.mod.kin _ _ hcc
  have look1 : ∀ (x : Str) (c : Addr), ([("__class__", cc)] : List (Str × Addr)).lookup x = some c → x = "__class__" ∧ c = cc := fun x c h => by
    unfold List.lookup at h
    split at h
    · rename_i q
      exact ⟨by simpa using q, (Option.some.inj h).symm⟩
    · cases h
  refine ⟨⟨e0.mod, hk, rfl, rfl, Nat.le_refl _, fun x y c h1 h2 => by rw [(look1 x c h1).1, (look1 y c h2).1], fun x hx => ?_, fun x c hx _ => Bool.noConfusion hx, fun _ => hd, Around.frames_deeper e0.frames, .inr ⟨rfl, rfl⟩, fun b hb => (nomatch hb), e0.bs, e0.bsz, fun b _ _ hb => (nomatch hb), fun b hb => (nomatch hb), e0.funs, e0.frf⟩,
    rfl, e0.bare, Un.kept keep, ⟨_, hns, fun j x y h1 h2 h3 => ?_⟩, fun x c h => ?_, e0.hok.fresh (Nat.le_refl _), fun x c h => ?_, fun p hp => (nomatch hp), e0.hok.kept keep, rfl⟩
  · have hx' : scope.names.lookup x = some .cell ∨ scope.names.lookup x = some .free := hx
    have hm : x = "__class__" := by
      rcases hx' with q | q
      · exact hfree (x, .cell) (PySem.mem_of_lookup q) (.inl rfl)
      · exact hfree (x, .free) (PySem.mem_of_lookup q) (.inr rfl)
    subst hm
    exact ⟨cc, rfl⟩
  · match j, h1, h2 with
    | 0, h1, h2 =>
      cases h1
      cases h2
      exact ⟨u, ra, .inl ⟨hself, rfl⟩⟩
    | 1, h1, h2 =>
      cases h1
      cases h2
      exact ⟨v, ri, .inl ⟨hpos, rfl⟩⟩
    | j + 2, h1, _ => cases h1
  · obtain ⟨rfl, rfl⟩ := look1 x c h
    exact ⟨vcl, ocl, keep _ _ (e0.bs _ _ hcb).1, hcv⟩
  · obtain ⟨rfl, rfl⟩ := look1 x c h
    exact (e0.bs _ _ hcb).2
/-- texts of numbers are short -/
theorem toDigitsCore_len (b : Nat) : ∀ (f n : Nat) (acc : List Char), (Nat.toDigitsCore b f n acc).length ≤ f + acc.length
  | 0, n, acc => by unfold Nat.toDigitsCore; omega
  | f + 1, n, acc => by
    unfold Nat.toDigitsCore
    dsimp only
    split
    · simp; omega
    · have := toDigitsCore_len b f (n / b) ((n % b).digitChar :: acc)
      simp at this ⊢
      omega
theorem num_len (n : Nat) : (tx (toString (n : Int))).length ≤ n + 1 := by
  unfold tx
  rw [List.length_map]
  have e : (toString (n : Int)) = Nat.repr n := rfl
  rw [e]
  unfold Nat.repr
  have h := toDigitsCore_len 10 (n + 1) n []
  simp [Nat.toDigits] at h ⊢
  exact h
abbrev scopeI : Scope := { kind := .function, names := [("self", .local), ("position", .local), ("__class__", .free), ("super", .globalImplicit), ("str", .globalImplicit)], isGenerator := false, isCoroutine := false, more := [] }
def spI (C : Addr) : Sp := fun vs H Q _ => ∃ (a : Addr) (i : Nat), vs = [.ref a, .int i] ∧ i ≤ 1000000 ∧ H a = some (exo a C none) ∧ ∀ dx, H dx = none → dx ≠ a → Q .non (upd (upd H dx (exd dx [("position", .int i)])) a (exo a C (some dx)))
section
open PySem.Calls
theorem body_init {X : Cx} {qual : Str} {st : Stmt} {C fI cc cda a : Addr} {fd : FuncData} {txt : Str} {j : Nat} {i : Nat} {p0 p1 p2 p3 p4 p5 p6 p7 p8 p9 q1 q2 q3 q4 : Pos} {body : List Stmt} {s : Shared} {H : Hp}
    (R : RF X.prog X.K qual st C fI cc cda fd) (hsc : X.env.scope = scopeI) (hN : X.N = [("self" : Str), ("position" : Str)]) (hfn : X.env.func = some fI) (hcd : X.env.code = .ref cda) (hcl : X.env.cells.lookup ("__class__" : Str) = some cc) (hc : X.calm = true)
    (hps : ((defArgs st).posonlyargs ++ (defArgs st).args).head?.map (·.arg) = some ("self" : Str)) (htxt : txt.length ≤ 1000) (msup : X.mg "super" = none) (mstr : X.mg "str" = none) (hi : i ≤ 1000000)
    (he : ∃ pl : Sem Bool, eval (.Call (.Attribute (.Call (.Name "super" p0) [] [] p1) "__init__" p2) [.BinOp (.Constant (.str txt) j p3) .Add (.Call (.Name "str" p4) [.Name "position" p5] [] p6) p7] [] p8) X.env = (do
      let ov ← attributeBase (.Call (.Name "super" p0) [] [] p1) "__init__" X.env (eval (.Call (.Name "super" p0) [] [] p1) X.env)
      standAt p2.atName
      let (f, first) ← holding [ov] (getMethod ov "__init__" pl)
      callWith p8 f first (backTo p8 (starEach [.BinOp (.Constant (.str txt) j p3) .Add (.Call (.Name "str" p4) [.Name "position" p5] [] p6) p7] X.env)) []))
    (I : Inv X [] [some (.ref a), some (.int i)] H s) (ea : H a = some (exo a C none)) :
    PySem.wpAt (model X.prog X.w) X.A (.func body X.env) (execs [.Expr (.Call (.Attribute (.Call (.Name "super" p0) [] [] p1) "__init__" p2) [.BinOp (.Constant (.str txt) j p3) .Add (.Call (.Name "str" p4) [.Name "position" p5] [] p6) p7] [] p8) p9, .Assign [.Attribute (.Name "self" q1) "position" q2] (.Name "position" q3) q4] X.env)
      (fun fl s' => fl = .next ∧ ∃ dx, H dx = none ∧ dx ≠ a ∧ Inv X [] [some (.ref a), some (.int i)] (upd (upd H dx (exd dx [("position", .int i)])) a (exo a C (some dx))) s') X.xe s := by
  obtain ⟨pl, he⟩ := he
  have hkf : X.env.scope.kind = .function := by rw [hsc]
  have kS : X.env.kindOf "super" = some .globalImplicit := by show X.env.scope.names.lookup _ = _; rw [hsc]; rfl
  have kC : X.env.kindOf "__class__" = some .free := by show X.env.scope.names.lookup _ = _; rw [hsc]; rfl
  have kF : X.env.kindOf "self" = some .local := by show X.env.scope.names.lookup _ = _; rw [hsc]; rfl
  have gS : Gl X "str" := by show X.env.scope.names.lookup _ = _; rw [hsc]; rfl
  have KX := I.kIn
  obtain ⟨oc, od, kV, doc, pm, an, ct, osl, efd, lk⟩ := R.fn
  obtain ⟨fc, fo, fvs, fsl, tf, lcd, hfile⟩ := R.file
  obtain ⟨cl, cld, csl, lcc⟩ := R.cell
  obtain ⟨ar, har, har2⟩ : ∃ ar : Arg, ((defArgs st).posonlyargs ++ (defArgs st).args).head? = some ar ∧ ar.arg = ("self" : Str) := by
    cases z : ((defArgs st).posonlyargs ++ (defArgs st).args).head? with
    | none => rw [z] at hps; cases hps
    | some ar => rw [z] at hps; exact ⟨ar, rfl, Option.some.inj hps⟩
  have vSelf : Vis X.env.scope "self" := .inl kF
  have vPos : Vis X.env.scope "position" := .inl (by rw [hsc]; rfl)
  refine PySem.ks_wpAt_execs_cons (PySem.ks_wpAt_Expr_any ?_ I.quiet rfl)
  refine PySem.ks_wpAt_MethodCall (pl := pl) ?_ he
  refine PySem.ks_wpAt_super_base kS kC (by decide) hfn (KX _ _ lk) rfl (by rw [efd]; exact har) hcd (KX _ _ lcd) rfl hfile (by simp) R.top ?_
  obtain ⟨mb, hb1, hb2⟩ := I.mod.blt
  refine PySem.W.ks_loadName_global hkf kS (Calls.loadGlobal_builtin (by rw [I.ok.glob]; exact I.mod.glob.keeps I.bk) msup (by rw [I.ok.blt]; exact hb1.keeps I.bk) ((hb2 _ (by decide)).trans (by decide +kernel)) ⟨rfl, ?_⟩)
  refine wpAny_loadName_free hkf kC hcl ⟨_, KX _ _ lcc, rfl⟩ ?_
  obtain ⟨m, hn, hl⟩ := id I.loc
  obtain ⟨us, rus, lus⟩ := hl 0 "self" (.ref a) (by rw [hN]; rfl) rfl vSelf
  obtain rfl : us = Value.ref a := rus
  have hms : m "self" = some (.ref a) := by
    rcases lus with ⟨_, z⟩ | ⟨z, _⟩
    · exact z
    · rw [kF] at z; rcases z with z | z <;> cases z
  refine wpAny_loadName_local hkf (by rw [har2]; exact kF) hn (by rw [har2]; exact hms) ?_
  obtain ⟨nm, qn, N, bs, bm, sn, sub, ab, col, dd, k0, k1, k2, k3, k5, hC, hbm⟩ := R.T.cls
  have hCh := KX _ _ hC
  refine PySem.ks_wpAny_isType_cls hCh rfl ⟨rfl, ?_⟩
  obtain ⟨t1, hx⟩ := exo_at I.hok ea
  have hsub : PySem.W.Looks (model X.prog X.w) s.heap (isSubtype (.ref C) (.ref C)) true := PySem.W.looks_mroIn KX R.mroC
  obtain ⟨hp, g, d, tk, os⟩ := s
  refine PySem.ks_wpAny_call_super hCh rfl hx rfl (fun c z => by cases z) hsub (fun h1 hso k1' => ?_)
  have I1 : L2.Inv X [] [some (.ref a), some (.int i)] H ⟨h1, g, d, tk, os⟩ := I.kept (t' := tk) k1'
  have KX1 := I1.kIn
  have hcls : PySem.W.clsIn X.K C = some { name := nm, bases := bs, mro := .ref C :: bm, ns := N, qualname := qn, hasDict := true, slotNames := sn, subclasses := sub, abstract := ab, collection := col, hasDel := false } := by unfold PySem.W.clsIn; rw [hC] <;> rfl
  have hx1 := k1' _ _ hx
  have hI1 : PySem.W.Looks (model X.prog X.w) h1 (isInstance (.ref a) (.type "ValueError")) true :=
    (show PySem.W.InstAt h1 a _ C none from ⟨hx1, rfl, rfl, trivial⟩).type.andThen (PySem.W.looks_subIn KX1 R.subVE)
  have hsup := R.sup
  unfold PySem.W.ks_superIn at hsup
  rw [hcls] at hsup
  have haC : a ≠ C := fun z => by
    rw [z] at hx
    have := Option.some.inj (hx.symm.trans hCh)
    cases this
  refine PySem.W.kxs_getMethod PySem.W.kxs_ValueError hso (PySem.W.looks_opaque KX1 R.tp) (l₀ := .ref C :: bm) (fun A Q E s k q => wpAny_bind ((PySem.W.looks_clsIn KX1 hcls) A _ E s k (wpAny_pure q))) rfl KX1 hsup hI1 haC (by decide) ?_
  have I2 : L2.Inv X [(h1.objs.size, PySem.W.kxs_mw "ValueError.__init__" a)] [some (.ref a), some (.int i)] H ⟨h1.push (PySem.W.kxs_mw "ValueError.__init__" a), g, d, tk + 1, os⟩ :=
    ClX.pin_new (s := ⟨h1, g, d, tk, os⟩) (t' := tk + 1) I1 (fun b u e => Heap.get?_push_of_some _ e) (Nat.le_refl _) (Heap.get?_push_size _ rfl) (fun v z => nomatch z)
  refine PySem.W.kxs_callWith (i := "ValueError.__init__") (x := a) rfl (evalArgs_plain (thn ((pa_cons (pe_op op_add_str pe_str (pe_callTy call_str_int gS mstr PyProof.Rows.boot_str (pa_cons (pe_var (i := 1) (x := "position") (by rw [hN]; rfl) vPos) pa_nil))) pa_nil).run p8 _ _ _ _ (fun vs H' => (∃ y, vs = [y]) ∧ H' = H) I2 ?_) fun us s3 ⟨vs, H3, I3, r3, ⟨y3, e3⟩, e4⟩ => ?_))
  · show tCons _ _ _ _ _
    have hs : (tx (toString (i : Int))).length ≤ 1000001 := Nat.le_trans (num_len i) (by omega)
    refine ⟨.int i, rfl, (i : Int), rfl, ?_, _, _, rfl, rfl, ?_, ⟨_, rfl⟩, rfl⟩
    · show i.log2 < 1920
      by_cases z : i = 0
      · subst z; decide
      · exact Nat.lt_trans ((Nat.log2_lt z).mpr (show i < 2 ^ 20 by omega)) (by decide)
    · rw [ofString_tx]
      show txt.length + (tx (toString (i : Int))).length ≤ _
      rw [sizeLine_eq]
      omega
  subst e3 e4
  cases r3 with
  | @cons _ u0 _ ur ra rw' =>
    cases rw'
    refine ⟨ClX.pin_at I3, ?_⟩
    have I4 := ClX.unpin I3
    obtain ⟨hp3, g3, d3, tk3, os3⟩ := s3
    have hmw : hp3.get? h1.objs.size = some (PySem.W.kxs_mw "ValueError.__init__" a) := ClX.pin_at I3
    have KX4 := I4.kIn
    obtain ⟨t4, hx4⟩ := exo_at I4.hok ea
    refine wpAny_call (codeAny_of_tree ?_)
    show wpAny _ X.A.in1 (callAny (.ref h1.objs.size) ⟨[u0], []⟩) _ _ _
    simp only [callAny]
    refine wpAny_bind (wpAny_load hmw ?_)
    simp only [PySem.W.kxs_mw, show (Value.type "method-wrapper" == Value.type "method" || Value.type "method-wrapper" == Value.type "builtin_function_or_method" || Value.type "method-wrapper" == Value.type "method-wrapper") = true by decide, if_true]
    refine PySem.W.KFB.if_so (by decide) ?_
    refine wpAny_bind (PySem.W.check_bound_init PySem.F.excBase_ValueError.toExcCallFacts (KX4 _ _ hC) hx4 rfl ?_)
    refine wpAny_bind (wpAny_pure (wpAny_pure ?_))
    refine ⟨plainId_quiet PySem.F.excBase_ValueError.init.plain _, codeAny_builtin PySem.F.excBase_ValueError.initEntry ?_⟩
    refine PySem.W.exc_init_tree (cls := .ref C) (t0 := t4) (dv := none) (c2 := .none) (c3 := .none) (b4 := .bool false) hx4 (by show 1 ≤ _; rw [sizeLine_eq]; decide) (fun h5 k5 x5 y5 => ?_)
    have I5 : L2.Inv X [] [some (.ref a), some (.int i)] (upd H3 a (exo a C none)) ⟨h5, g3, d3, tk3, os3⟩ := I4.write (by rw [ea]; exact True.intro) (.inl rfl) k5 ⟨_, x5⟩ (exo_ok x5)
    have eu : upd H3 a (exo a C none) = H3 := by
      funext b
      by_cases hb : b = a
      · rw [hb, upd_same, ea]
      · rw [upd_ne hb]
    rw [eu] at I5
    show PySem.wpAt _ _ _ _ _ _ _
    refine PySem.ks_wpAt_execs_cons (PySem.wpAt_of_wpAny ?_)
    refine wpAny_mono ((ps_ost (X := X) (f := "position") (o := .Name "self" q1) (e := .Name "position" q3) (pos := q4) (p' := q2) (pe_var (i := 0) (x := "self") (by rw [hN]; rfl) vSelf) (pe_var (i := 1) (x := "position") (by rw [hN]; rfl) vPos)).run [] _ _ _ ⟨fun σ' H' => σ' = [some (.ref a), some (.int i)] ∧ ∃ dx, H3 dx = none ∧ dx ≠ a ∧ H' = upd (upd H3 dx (exd dx [("position", .int i)])) a (exo a C (some dx)), fun _ _ => False, fun _ _ => False, fun _ _ => False⟩ I5 ?_) (fun fl s6 h6 => ?_) (fun _ _ y => y)
    · refine ⟨_, rfl, _, rfl, a, C, rfl, R.T, R.noPos, .inl ⟨ea, fun dx n ne => ⟨rfl, dx, n, ne, rfl⟩⟩⟩
    · cases fl with
      | next =>
        obtain ⟨σ', H', I6, e6, dx, n, ne, e7⟩ := h6
        subst e6 e7
        exact PySem.wpAt_of_wpAny (wpAny_execs_nil ⟨rfl, dx, n, ne, I6⟩)
      | brk =>
        obtain ⟨_, _, _, z⟩ := h6
        exact z.elim
      | cont =>
        obtain ⟨_, _, _, z⟩ := h6
        exact z.elim
      | ret u =>
        obtain ⟨_, _, _, _, _, z⟩ := h6
        exact z.elim
end
theorem ok_init {qual : Str} {st : Stmt} {C fI cc cda : Addr} {fd : FuncData} {txt : Str} {j : Nat} {p0 p1 p2 p3 p4 p5 p6 p7 p8 p9 q1 q2 q3 q4 : Pos}
    (R : RF P K qual st C fI cc cda fd) (hs : defScope st = scopeI)
    (hb : defBody st = [.Expr (.Call (.Attribute (.Call (.Name "super" p0) [] [] p1) "__init__" p2) [.BinOp (.Constant (.str txt) j p3) .Add (.Call (.Name "str" p4) [.Name "position" p5] [] p6) p7] [] p8) p9, .Assign [.Attribute (.Name "self" q1) "position" q2] (.Name "position" q3) q4])
    (hps : ((defArgs st).posonlyargs ++ (defArgs st).args).head?.map (·.arg) = some "self") (htxt : txt.length ≤ 1000)
    (he : ∀ env : Env, ∃ pl : Sem Bool, eval (.Call (.Attribute (.Call (.Name "super" p0) [] [] p1) "__init__" p2) [.BinOp (.Constant (.str txt) j p3) .Add (.Call (.Name "str" p4) [.Name "position" p5] [] p6) p7] [] p8) env = (do
      let ov ← attributeBase (.Call (.Name "super" p0) [] [] p1) "__init__" env (eval (.Call (.Name "super" p0) [] [] p1) env)
      standAt p2.atName
      let (f, first) ← holding [ov] (getMethod ov "__init__" pl)
      callWith p8 f first (backTo p8 (starEach [.BinOp (.Constant (.str txt) j p3) .Add (.Call (.Name "str" p4) [.Name "position" p5] [] p6) p7] env)) []))
    (msup : mg "super" = none) (mstr : mg "str" = none) : FnOk P w K mg base CX0 1 fI fd ["self", "position"] (spI C) := by
  obtain ⟨oc, od, kV, doc, pm, an, ct, osl, efd, lk⟩ := R.fn
  refine ⟨fun vs H Q E ⟨a, i, e, _⟩ => by rw [e]; rfl, fun A outer s H args us vs Q E hr e0 hbd r ⟨a, i, ev, hi, ea, q⟩ => ?_⟩
  subst ev
  obtain ⟨u, v, rfl, ru, rv⟩ : ∃ u v, us = [u, v] ∧ RelV (.ref a) u ∧ RelV (.int (i : Int)) v := by
    cases r with
    | cons h1 h2 =>
      cases h2 with
      | cons h2 h3 =>
        cases h3
        exact ⟨_, _, rfl, h1, h2⟩
  have KX : K.In s.heap := e0.mod.kin.keeps fun b o e => (e0.bs b o e).1
  have lim : s.heap.NoLimit := e0.mod.nolimit.keeps fun b o e => (e0.bs b o e).1
  subst efd
  obtain ⟨cl, cld, csl, lcc⟩ := R.cell
  refine PySem.ks_codeAny_call_defAt (fd := PySem.W.ksFn "__init__" qual (defArgs st) (defBody st) (defScope st) .none kV doc pm an (.ref cda) ct cc) (body := defBody st) hr.depth (KX _ _ lk) rfl lim (PySem.W.codeRec_of KX R.code) rfl hbd (by show ∀ x ∈ (defScope st).names, _; rw [hs]; decide) (by
    show ∀ x ∈ [(("self" : Str), u), (("position" : Str), v)], (defScope st).names.lookup x.1 = _
    rw [hs]
    intro x hx
    rcases List.mem_cons.mp hx with rfl | hx
    · rfl
    · rcases List.mem_cons.mp hx with rfl | hx
      · rfl
      · cases hx) (fun h₀ hns keep => ?_) (by show (defScope st).isCoroutine = _; rw [hs]) (by show (defScope st).isGenerator = _; rw [hs]) (by show (defScope st).kind = _; rw [hs])
  have I : Inv (cxI P w K mg base qual (defScope st) fI cda cc A outer s H) [] [some (.ref a), some (.int i)] H { s with heap := h₀, toks := s.toks + 2 } :=
    cxI_inv (by rw [hs]) (by rw [hs]; decide) (by rw [hs]; rfl) (by rw [hs]; rfl) hr.hd e0 lcc rfl ru rv hns keep
  show PySem.wpAt _ _ (.func (defBody st) (PySem.W.ksEnv qual (defScope st) s.heap.objs.size fI (.ref cda) cc)) (execs (defBody st) (PySem.W.ksEnv qual (defScope st) s.heap.objs.size fI (.ref cda) cc)) _ _ _
  rw [hb]
  refine PySem.wpAt_mono (body_init (X := cxI P w K mg base qual (defScope st) fI cda cc A outer s H) (j := j) (p0 := p0) (p1 := p1) (p2 := p2) (p3 := p3) (p4 := p4) (p5 := p5) (p6 := p6) (p7 := p7) (p8 := p8) (p9 := p9) (q1 := q1) (q2 := q2) (q3 := q3) (q4 := q4) R hs rfl rfl rfl rfl rfl hps htxt msup mstr hi ?_ I ea) (fun fl s6 h6 => ?_) (fun _ _ z => False.elim z)
  · exact he _
  obtain ⟨rfl, dx, n, ne, I6⟩ := h6
  exact ⟨.non, _, I6.os, I6.bare, I6.base, I6.hok, rfl, q dx n ne⟩
end
end DL
namespace DL
open PySem PySem.Spec L2
/-- an own exception whose __init__ keeps its argument as its position -/
structure RX (P : Program) (w : World) (K : PySem.W.Frag) (mg : Str → Option Value) (base : Heap) (C : Addr) : Prop where
  T : OexC K C
  make : ∃ (fI : Addr) (fd : FuncData), PySem.W.findIn K (.ref C) "__init__" = some (some (.ref fI)) ∧ PySem.W.typeIn K (.ref fI) = some (.type "function") ∧ FnOk P w K mg base CX0 1 fI fd ["self", "position"] (spI C) ∧ Binds K fd ["self", "position"] []
section
variable {X : Cx} {F0 : Ent} {e : Expr} {te : TD} {p pos pos' : Pos} {x : Str} {C : Addr} {k : Nat} {E' : XD}
def tdRaise (C : Addr) (E' : XD) (te : TD) : TDS := fun _ ρ S => te ρ S fun d S1 => ∃ i : Nat, d = .int i ∧ i ≤ 1000000 ∧ E' ⟨C, [("position", .int i)]⟩ S1
theorem ds_raise (R : RX X.prog X.w X.K X.mg X.base C) (B : BC X F0 (k + 2) E') (hg : Gl X x) (hm : X.mg x = some (.ref C)) (he : DE X F0 e te)
    (hdb : (x == ("__debug__" : Str)) = false := by decide) (hs : starEach (e :: []) X.env = (false, eval e X.env) :: starEach [] X.env := by rfl) (hpl : (backTo pos (starEach [] X.env)).any (·.1) = false := by rfl) :
    DS X F0 (.Raise (some (.Call (.Name x p) [e] [] pos)) none pos') (tdRaise C E' te) := by
  obtain ⟨W, tk, hW⟩ := B.take
  obtain ⟨fI, fd, i1, i2, i3, i4⟩ := R.make
  refine PS.weak (ps_raise B.calm (takes_len tk) (pmk_oex (CX := CX0) (k := 1) (ds := []) (dvs := []) R.T i1 i2 i3 (B.room.room (by omega)) i4 .nil (fun _ _ _ _ _ _ _ z => z.elim) hg hm (pa_cons he pa_nil hs) hdb hs hpl)) fun D σ H ⟨F, S, ρ, D', a, h, _⟩ => ?_
  refine EL.go a h fun v H1 F1 S1 d x1 a1 r1 ⟨i, e1, e2, q⟩ => ?_
  subst e1
  obtain rfl := r1.int_e
  refine ⟨by simp, fun ea hea => ?_⟩
  refine ⟨ea, i, rfl, e2, upd_same, fun dx n ne => ⟨rfl, dx, [("position", .int i)], upd_same, ?_, ?_, fun hl => ?_⟩⟩
  · rw [upd_ne ne, upd_same]
  · rw [upd_ne ne] at n; exact n
  · have n1 : H1 dx = none := by rw [upd_ne ne] at n; exact n
    have eH : upd (del (upd (upd (upd H1 ea (exo ea C none)) dx (exd dx [("position", .int i)])) ea (exo ea C (some dx))) ea) dx (.xd [("position", V.int i)]) = upd H1 dx (.xd [("position", V.int i)]) := by
      funext b
      by_cases hb : b = dx
      · rw [hb, upd_same, upd_same]
      · rw [upd_ne hb, upd_ne hb]
        by_cases hc : b = ea
        · rw [hc, del_same, hea]
        · rw [del_ne hc, upd_ne hc, upd_ne hb, upd_ne hc]
    rw [eH]
    have xl : Ext F1 S1 H1 F1 S1 (upd H1 dx (.xd [("position", V.int i)])) := by
      refine ⟨Same.refl _, fun b u q _ => ?_, fun _ q g => absurd g q, fun _ q => .inl q⟩
      rw [upd_ne]; exact q
      intro z; rw [z, n1] at q; cases q
    exact hW F1 S1 _ ⟨C, [("position", .int i)]⟩ (.ref C) (some dx) σ hl (a1.f0.trans xl) (a1.sr.laid n1) ⟨rfl, .inr ⟨dx, _, rfl, upd_same, ⟨V.int i, [], rfl, .int_i _, rfl⟩⟩⟩ q
def tdCallL (i : Nat) (f : Addr) (m : M) (n : Nat) (E' : XD) (t : TDs) : TD := fun ρ S Q => ρ[i]? = some (some (.ref f)) ∧ tdCall m n E' t ρ S Q
theorem de_callL {f : Addr} {fd : FuncData} {ps : List Str} {m : M} {es : List Expr} {tr : TDs} (i : Nat) (G : DF X.prog X.w X.K X.mg X.base k f fd ps m) (B : BC X F0 k E') (hk : PySem.W.keepIn X.K (.ref f) = true) (hb : Binds X.K fd ps []) (ha : DA X F0 (e :: es) tr)
    (hN : X.N[i]? = some x := by rfl) (hv : Vis X.env.scope x := by first | exact Or.inl rfl | exact Or.inr (Or.inl rfl) | exact Or.inr (Or.inr rfl)) (hdb : (x == ("__debug__" : Str)) = false := by decide) (hcd : (x == ("__classdict__" : Str)) = false := by decide)
    (he : starEach (e :: es) X.env = (false, eval e X.env) :: starEach es X.env := by rfl) (hpl : (backTo pos (starEach es X.env)).any (·.1) = false := by rfl) :
    DE X F0 (.Call (.Name x p) (e :: es) [] pos) (tdCallL i f m ps.length E' tr) := by
  obtain ⟨E, hp, hE⟩ := B.pass
  refine PE.weak (pd_callL (E := E) (i := i) G B.room hN hv hk hb hp ha hdb hcd he hpl) fun σ H Q ⟨F, S, ρ, Q', a, ⟨h0, h⟩, p⟩ => ?_
  obtain ⟨v, h1, h2⟩ := a.env.2 i _ h0
  obtain rfl := h2.ref_e
  exact ⟨h1, call_go hE ⟨F, S, ρ, Q', a, h, p⟩ fun _ _ _ z => z⟩
end
/-- the suite's ends: its name is gone behind it -/
def DEnds.unset (D : DEnds) (i : Nat) : DEnds := { nx := fun ρ S => D.nx (ρ.set i none) S, rt := D.rt, bk := fun ρ S => D.bk (ρ.set i none) S, ct := fun ρ S => D.ct (ρ.set i none) S }
/-- the exception's dict, as the suite finds it -/
def XfH (K : PySem.W.Frag) (F0 : Ent) (d : Option Addr) (fs : List (Str × D)) : Prop := ∃ dd ws, d = some dd ∧ F0.H dd = some (.xd ws) ∧ F0.S dd = none ∧ RelF K F0.F fs ws
theorem SR.xd_none {K : PySem.W.Frag} {F : Hp} {S : Store} {H : Hp} {b : Addr} {ws : List (Str × V)} (sr : SR K F S H) (h : H b = some (.xd ws)) : S b = none := by
  cases q : S b with
  | none => rfl
  | some o =>
    obtain ⟨_, ho, h2, h3⟩ := sr.obj b o q
    rw [h] at h2; cases h2
    cases o with
    | lst ds =>
      obtain ⟨_, z, _⟩ := h3
      cases z
    | dic ds =>
      obtain ⟨_, z, _⟩ := h3
      cases z
    | ins ds =>
      obtain ⟨_, _, z, _⟩ := h3
      cases z
    | dn _ _ _ =>
      obtain ⟨_, z, _⟩ := h3
      exact nomatch (show HO.xd ws = HO.ext _ from z)
section
variable {X : Cx} {x n : Str} {C : Addr} {i : Nat} {body suite : List Stmt} {b₀ : Stmt} {np pos pos' : Pos} {tb : XD → TDS} {ts : Addr → List (Str × D) → TDS} {k : Nat} {F0 : Ent}
def tdTry (C : Addr) (i n : Nat) (tb : XD → TDS) (ts : Addr → List (Str × D) → TDS) : TDS := fun D ρ S =>
  tb (fun x S' => x.C = C ∧ x.fs ≠ [] ∧ ∀ a, ts a x.fs (D.unset i) ((List.replicate n none).set i (some (.ref a))) S') D ρ S
theorem ds_try_as (i : Nat) (hs : X.stack = X.env :: X.outer) (hf : X.env.frame = some X.env.locals) (hr : Rm k X.A) (hcalm : X.calm = true) (hN : X.N.Nodup) (hi : X.N[i]? = some n) (hln : X.env.kindOf n = some .local) (hc : Names X x (.ref C)) (hx : PySem.W.exmOne X.K (.ref C) (.ref C) = some true)
    (hb : ∀ (F1 : Ent) (pn : List (Addr × Obj)) (xe : Value → Shared → Prop) (E' : XD), PassesOwn (model X.prog X.w) X.A X.env xe → BC (X.tr pn xe) F1 k E' → DSs (X.tr pn xe) F1 body (tb E'))
    (hsu : ∀ (F1 : Ent) (a : Addr) (oe : Obj) (d : Option Addr) (fs : List (Str × D)) (pn : List (Addr × Obj)), Zc (.ref C) d oe → (∃ vs, oe.data = .fields vs) → XfH X.K F1 d fs → DSs (X.suite a ((a, oe) :: pn)) F1 (b₀ :: suite) (ts a fs)) :
    DS X F0 (.Try body [.ExceptHandler (some (.Name x np)) (some n) (b₀ :: suite) pos'] [] [] pos) (tdTry C i X.N.length tb ts) := by
  refine PS.weak (ps_try_as (i := i) (c := .ref C) (Wout := fun _ _ _ _ => False) (ts := fun a cls d D σ H => ∃ F1 fs, cls = .ref C ∧ XfH X.K F1 d fs ∧ SL X.K F1 (ts a fs) D σ H)
    (tb := fun W D σ H => ∃ F1 E', (∀ F' S' H' x cls od (σ : L2.St), σ.length = X.N.length → Ext F1.F F1.S F1.H F' S' H' → SR X.K F' S' H' → ExnRel X.K F' x cls od H' → E' x S' → W cls od σ H') ∧ SL X.K F1 (tb E') D σ H)
    hs hf hN hi hln hc (fun u s' ⟨a, B, sI, pins, σ, H, cls, d, e, I, nb, up, sky, na, os, ag, w⟩ => w.elim) (fun W pn xe tk po => ?_) (fun a oe cls d pn hz hv => ?_)) fun D σ H ⟨F, S, ρ, D', a, h, p⟩ => ?_
  · exact ⟨fun pins s σ H D I ⟨F1, E', hE, h⟩ => (hb F1 pn xe E' po ⟨hr, hcalm, W, tk, hE⟩).run pins s σ H D I h⟩
  · refine ⟨fun pins s σ H D I ⟨F1, fs, e1, e2, h⟩ => ?_⟩
    subst e1
    exact (hsu F1 a oe d fs pn hz hv e2).run pins s σ H D I h
  · refine ⟨⟨F, S, H⟩, _, fun F' S' H' y cls od σ' hl z sr er q => ?_, F, S, ρ, D', ⟨Ext.refl _ _ _, a.sr, a.env⟩, h, p⟩
    obtain ⟨q1, q2, q3⟩ := q
    obtain ⟨e1, e2⟩ := er
    rw [q1] at e1; subst e1
    refine ⟨true, hx, fun _ a _ => ?_, fun z => by cases z⟩
    rcases e2 with ⟨_, z⟩ | ⟨dd, ws, e3, e4, e5⟩
    · exact absurd z q2
    · refine ⟨⟨F', S', H'⟩, y.fs, rfl, ⟨dd, ws, e3, e4, sr.xd_none e4, e5⟩, F', S', _, D'.unset i, ⟨Ext.refl _ _ _, sr, ?_⟩, q3 a, ?_⟩
      · refine RelE.set (d := .ref a) (v := .ref a) ⟨by simp [hl], fun j d q => ?_⟩ (.ref_i _) i
        rw [List.getElem?_replicate] at q
        split at q <;> cases q
      · exact ⟨fun σ1 H1 F1 S1 ρ1 y1 sr1 ev q => p.1 _ _ _ _ _ (z.trans y1) sr1 (ev.unset i none) q, fun v H1 F1 S1 d y1 sr1 rd q => p.2.1 _ _ _ _ _ (z.trans y1) sr1 rd q,
          fun σ1 H1 F1 S1 ρ1 y1 sr1 ev q => p.2.2.1 _ _ _ _ _ (z.trans y1) sr1 (ev.unset i none) q, fun σ1 H1 F1 S1 ρ1 y1 sr1 ev q => p.2.2.2 _ _ _ _ _ (z.trans y1) sr1 (ev.unset i none) q⟩
theorem ds_tryN (i ln : Nat) (hln2 : X.N.length = ln) (hs : X.stack = X.env :: X.outer) (hf : X.env.frame = some X.env.locals) (hr : Rm k X.A) (hcalm : X.calm = true) (hN : X.N.Nodup) (hi : X.N[i]? = some n) (hln : X.env.kindOf n = some .local) (hc : Names X x (.ref C)) (hx : PySem.W.exmOne X.K (.ref C) (.ref C) = some true)
    (hb : ∀ (F1 : Ent) (pn : List (Addr × Obj)) (xe : Value → Shared → Prop) (E' : XD), PassesOwn (model X.prog X.w) X.A X.env xe → BC (X.tr pn xe) F1 k E' → DSs (X.tr pn xe) F1 body (tb E'))
    (hsu : ∀ (F1 : Ent) (a : Addr) (oe : Obj) (d : Option Addr) (fs : List (Str × D)) (pn : List (Addr × Obj)), Zc (.ref C) d oe → (∃ vs, oe.data = .fields vs) → XfH X.K F1 d fs → DSs (X.suite a ((a, oe) :: pn)) F1 (b₀ :: suite) (ts a fs)) :
    DS X F0 (.Try body [.ExceptHandler (some (.Name x np)) (some n) (b₀ :: suite) pos'] [] [] pos) (tdTry C i ln tb ts) := hln2 ▸ ds_try_as i hs hf hr hcalm hN hi hln hc hx hb hsu
def tdXf (a : Addr) (fs : List (Str × D)) (f : Str) (te : TD) : TD := fun ρ S Q => te ρ S fun x S1 => x = .ref a ∧ ∃ v, fs.lookup f = some v ∧ Q v S1
theorem de_xf {a : Addr} {oe : Obj} {d : Option Addr} {fs : List (Str × D)} {pn : List (Addr × Obj)} {e : Expr} {te : TD} {f : Str} {p : Pos} (T : XfC X.K C) (hno : PySem.W.findIn X.K (.ref C) f = some none)
    (hz : Zc (.ref C) d oe) (hv : ∃ vs, oe.data = .fields vs) (hd : XfH X.K F0 d fs) (he : DE (X.suite a ((a, oe) :: pn)) F0 e te) (hb : attributeBase e f X.env (eval e X.env) = eval e X.env := by rfl) :
    DE (X.suite a ((a, oe) :: pn)) F0 (.Attribute e f p) (tdXf a fs f te) := PE.weak (pe_xf T hno hz hv he hb) fun σ H Q ⟨F, S, ρ, Q', at0, h, pp⟩ => by
  refine EL.go at0 h fun v H1 F1 S1 x x1 a1 r1 ⟨e1, u, e2, q⟩ => ?_
  subst e1
  obtain ⟨dd, ws, e3, e4, e5, e6⟩ := hd
  obtain ⟨w, l1, l2⟩ := e6.lookup e2
  exact ⟨r1.ref_e, rfl, dd, ws, w, e3, a1.f0.off dd _ e4 e5, l1, pp.of x1 a1.sr (RelD.mono a1.f0.same _ _ l2) q⟩
end
section
open PySem.W PySem.Calls
theorem find_data {K : PySem.W.Frag} {C : Addr} {od : Option Obj} {name : Str} {a g : Value} (hc : (clsIn K C).isSome = true) (ha : findIn K (.ref C) name = some (some a)) (hg : specialIn K a "__get__" = some (some g)) (ht : takesIn K a = some true) : findObj K C od name = some (.bind g a) := by
  obtain ⟨cd, hc⟩ := Option.isSome_iff_exists.mp hc
  unfold findObj; rw [hc, Option.bind_some, ha, Option.bind_some]; simp [hg, ht]
theorem classX {prog : Program} {w : World} {A : Around} {E : Value → Shared → Prop} {s : Shared} {K : PySem.W.Frag} {x D : Addr} {ox : Obj} {od : Option Obj} {Q : Option Value → Shared → Prop} (c : ExcC K D)
    (X : K.In s.heap) (I : InstAt s.heap x ox D od) (h : Q (some (.ref D)) { s with toks := s.toks + 1 }) : wpAny (model prog w) A (getAttr? (.ref x) "__class__") Q E s := by
  have hf : findObj K D od "__class__" = some (.bind (.builtin "getset_descriptor.__get__") (.builtin "object.__class__")) := find_data (by obtain ⟨cd, hc, _⟩ := any_some c.hd; rw [hc]; rfl) c.ha c.hn c.ht
  obtain ⟨hp, g, d, t, os⟩ := s
  have M0 := I.type (M := model prog w)
  have M1 := looks_findIn (M := model prog w) X c.hg
  have M2 := looks_findIn (M := model prog w) X c.hk
  have M3 := looks_find (M := model prog w) X I hf
  have sub : Looks (model prog w) hp (isInstance (.ref x) (.type "BaseException")) true := M0.andThen (looks_subIn X c.hs)
  have y2 : (Value.builtin "BaseException.__getattribute__" == Value.builtin "object.__getattribute__") = false := by decide +kernel
  have y1 : (onTheHeap (Value.ref D) && Value.builtin "BaseException.__getattribute__" == Value.builtin "object.__getattribute__") = false := by rw [y2]; rfl
  unfold getAttr? getAttrBy? getAttrBy; refine wpAny_bind (wpAny_mkText (wpAny_bind (wpAny_attempt (wpAny_holding (wpAny_bind (M0.at (wpAny_bind (M1.at ?_))))))))
  show wpAny _ _ (if (onTheHeap (Value.ref D) && Value.builtin "BaseException.__getattribute__" == Value.builtin "object.__getattribute__") = true then (_) else _) _ _ _
  rw [y1, if_neg Bool.false_ne_true]; unfold getAttrByItsOwn hookBefore; refine wpAny_bind ?_
  rw [if_pos (show onTheHeap (Value.ref D) = true by rfl)]; refine M2.at ?_; refine wpAny_bind (wpAny_attempt (wpAny_holding ?_))
  unfold callGetattribute; rw [show (false && onTheHeap (Value.builtin "BaseException.__getattribute__")) = false by rfl, if_neg Bool.false_ne_true]; unfold boundAndCalled
  rw [PySem.F.excAttr_ValueError.ga.bind (.ref x)]; refine wpAny_bind (wpAny_pure ?_)
  show wpAny _ _ (call (.builtin "BaseException.__getattribute__") [.ref x, .str "__class__" t] []) _ _ _
  refine wpAny_call (codeAny_call_builtin (PySem.F.excAttr_ValueError.ga.plain) (PySem.F.entry_bexc_ga) ?_)
  refine @check_slot (model prog w) _ _ (⟨hp, g, d, t + 1, os⟩ : Shared) "BaseException.__getattribute__" "BaseException" "__getattribute__" (.ref x) [.str "__class__" t] [] _ (by decide +kernel) (by decide +kernel) sub (PySem.F.args_bexc_ga (.ref x) (.str "__class__" t)) ?_
  unfold Builtin.«object.__getattribute__»; refine wpAny_bind (wpAny_of_eq (a := ((Value.ref x : Value), [Value.str "__class__" t])) (by first | rfl | (simp only [slotArgs]; rfl)) ?_)
  refine wpAny_bind (wpAny_pure (wpAny_bind (M0.at (wpAny_bind (M3.at ?_)))))
  show wpAny _ _ (holding [Value.builtin "object.__class__"] (call (.builtin "getset_descriptor.__get__") [.builtin "object.__class__", .ref x, .ref D] []) >>= ret) _ _ _
  refine wpAny_bind (wpAny_holding (wpAny_call (class_get (s := (⟨hp, g, d, t + 1, os⟩ : Shared)) (ox := ox) (od := od) X I c.hm ?_)))
  refine wpAny_pure ?_; show wpAny _ _ (handedOut (.ref D)) _ _ _; rw [handedOut_of (v := .ref D) rfl]
  first | exact wpAny_pure (wpAny_pure h) | exact wpAny_pure h | exact wpAny_pure (wpAny_bind (wpAny_pure (wpAny_pure h)))
theorem kitX_exc {K : PySem.W.Frag} {x D : Addr} {ox : Obj} {od : Option Obj} (c : ExcC K D) : KitX K (.ref x) (.ref D) (fun h => InstAt h x ox D od) := by
  have key : ∀ (h : Heap), K.In h → ∃ c' d' cd' sl', h.get? D = some ⟨c', d', .cls cd', sl'⟩ := fun h X => by
    obtain ⟨cdD, hcD, _⟩ := any_some c.hd
    unfold clsIn at hcD
    split at hcD
    · rename_i c' d' cd' sl' ho; exact ⟨c', d', cd', sl', X _ _ ho⟩
    · cases hcD
  refine ⟨fun M h X I => I.type, fun M h X I => ?_, fun h tp dd its n sl X htp => ?_, fun X I q => classX c X I q⟩
  · obtain ⟨c', d', cd', sl', ho⟩ := key h X
    intro A Q E s k q; unfold isType loadHead; exact wpAny_bind (wpAny_loadPart (k _ _ ho) (wpAny_pure q))
  · obtain ⟨c', d', cd', sl', ho⟩ := key h X
    refine Bool.eq_false_iff.mpr fun q => ?_
    have e : D = tp := Value.ref.inj (beq_iff_eq.mp q)
    subst e; rw [ho] at htp; cases htp
end
section
variable {X : Cx} {F0 : Ent} {C : Addr}
/-- isinstance(error, B) in an except suite, B an own class -/
def tdIsX (a : Addr) (b : Bool) (te : TD) : TD := fun ρ S Q => te ρ S fun x S1 => x = .ref a ∧ Q (.bl b) S1
theorem de_isX {a CB : Addr} {oe : Obj} {d : Option Addr} {fs : List (Str × D)} {pn : List (Addr × Obj)} {e : Expr} {te : TD} {y : Str} {p p1 p2 : Pos} {b : Bool} (c : ExcC X.K C) (hk : PySem.W.kitOne X.K (.ref C) (.ref CB) = some b)
    (hz : Zc (.ref C) d oe) (hv : ∃ vs, oe.data = .fields vs) (hd : XfH X.K F0 d fs) (he : DE (X.suite a ((a, oe) :: pn)) F0 e te) (hg : Gl X "isinstance") (hm : X.mg "isinstance" = none) (hgy : Gl X y) (hmy : X.mg y = some (.ref CB))
    (hdy : (y == ("__debug__" : Str)) = false := by decide) (hs : starEach (e :: [.Name y p2]) X.env = (false, eval e X.env) :: starEach [.Name y p2] X.env := by rfl) (hpl : (backTo p (starEach [.Name y p2] X.env)).any (·.1) = false := by rfl) :
    DE (X.suite a ((a, oe) :: pn)) F0 (.Call (.Name "isinstance" p1) (e :: [.Name y p2]) [] p) (tdIsX a b te) := by
  refine PE.weak (pe_callB (X := X.suite a ((a, oe) :: pn)) (id := "isinstance") (r := fun xs H Q => xs = [.ref a, .ref CB] ∧ (∃ dd ws, d = some dd ∧ H dd = some (.xd ws)) ∧ Q (.bl b) H) (fun pins s σ H xs us Q I r ⟨e1, ⟨dd, ws, e2, e3⟩, q⟩ => ?_) hg hm PyProof.Rows.boot_isinstance
    (pa_cons he (pa_cons (pe_glob (v := .ref CB) hgy hmy rfl hdy) pa_nil) hs) (by decide) (by decide) hs hpl) fun σ H Q ⟨F, S, ρ, Q', at0, h, pp⟩ => ?_
  · subst e1 e2
    cases r with
    | cons rx rr =>
      cases rr with
      | cons rt rr =>
        cases rr; cases rx; cases rt
        obtain ⟨hget, _⟩ := I.pin (a, oe) (List.mem_append.mpr (.inl List.mem_cons_self))
        obtain ⟨vs, hv⟩ := hv
        obtain ⟨mA, ⟨oD, esD, epD, hoD, _⟩, _⟩ := (show ObjOk X.prog X.w H s.heap dd (.xd ws) from I.hok dd _ e3)
        have J : PySem.W.InstAt s.heap a oe C (some oD) := ⟨hget, hz.1, by unfold PySem.W.notCls; rw [hv] <;> rfl, by rw [hz.2]; exact hoD⟩
        exact PySem.W.kia_one (kitX_exc c) I.kIn J hk (fun z => nomatch z) fun tk => ⟨.bl b, H, I.kept (t' := tk) fun _ _ z => z, rfl, q⟩
  · refine EL.go at0 h fun v H1 F1 S1 x x1 a1 r1 ⟨e1, q⟩ => ?_
    subst e1
    obtain rfl := r1.ref_e
    obtain ⟨dd, ws, e3, e4, e5, e6⟩ := hd
    exact ⟨rfl, ⟨dd, ws, e3, a1.f0.off dd _ e4 e5⟩, pp.of x1 a1.sr (.bl_i _) q⟩
end
section
variable {X : Cx} {F0 : Ent} {C : Addr} {e : Expr} {te : TD} {p p2 pos : Pos} {x : Str} {k : Nat}
def tdXp (te : TD) : TD := fun ρ S Q => te ρ S fun d S1 => ∃ i : Nat, d = .int i ∧ i ≤ 1000000 ∧ Q (.int i) S1
/-- C(e).position -/
theorem de_xp (R : RX X.prog X.w X.K X.mg X.base C) (T : XfC X.K C) (hno : PySem.W.findIn X.K (.ref C) "position" = some none) (hr : Room 2 X.A) (hg : Gl X x) (hm : X.mg x = some (.ref C)) (he : DE X F0 e te)
    (hdb : (x == ("__debug__" : Str)) = false := by decide) (hs : starEach (e :: []) X.env = (false, eval e X.env) :: starEach [] X.env := by rfl) (hpl : (backTo pos (starEach [] X.env)).any (·.1) = false := by rfl)
    (hb : attributeBase (.Call (.Name x p) [e] [] pos) "position" X.env (eval (.Call (.Name x p) [e] [] pos) X.env) = eval (.Call (.Name x p) [e] [] pos) X.env := by rfl) :
    DE X F0 (.Attribute (.Call (.Name x p) [e] [] pos) "position" p2) (tdXp te) := by
  obtain ⟨fI, fd, i1, i2, i3, i4⟩ := R.make
  have pk := pmk_oex (p := p) (pos := pos) (CX := CX0) (k := 1) (ds := []) (dvs := []) R.T i1 i2 i3 hr i4 .nil (fun _ _ _ _ _ _ _ z => z.elim) hg hm (pa_cons he pa_nil hs) hdb hs hpl
  refine ⟨fun pins s σ H Q I ⟨F, S, ρ, Q', a, h, pp⟩ => ?_⟩
  refine attr_of hb (wpAny_mono (pk pins s σ H (fun cls od H' => cls = .ref C ∧ ∃ dx ws i, od = some dx ∧ H' dx = some (.xd ws) ∧ ws.lookup ("position" : Str) = some (V.int i) ∧ Q (.int i) H') I (EL.go a h fun v H1 F1 S1 d x1 a1 r1 ⟨i, e1, e2, q⟩ => ?_)) (fun u s1 hu => ?_) fun _ _ z => z)
  · subst e1
    obtain rfl := r1.int_e
    refine ⟨by simp, fun ea hea => ⟨ea, i, rfl, e2, upd_same, fun dx n ne => ⟨rfl, dx, [("position", .int i)], upd_same, ?_, ?_, rfl, dx, [("position", .int i)], i, rfl, ?_, rfl, ?_⟩⟩⟩
    · rw [upd_ne ne, upd_same]
    · rw [upd_ne ne] at n; exact n
    · rw [upd_same]
    · have n1 : H1 dx = none := by rw [upd_ne ne] at n; exact n
      have eH : upd (del (upd (upd (upd H1 ea (exo ea C none)) dx (exd dx [("position", .int i)])) ea (exo ea C (some dx))) ea) dx (.xd [("position", V.int i)]) = upd H1 dx (.xd [("position", V.int i)]) := by
        funext b
        by_cases hb : b = dx
        · rw [hb, upd_same, upd_same]
        · rw [upd_ne hb, upd_ne hb]
          by_cases hc : b = ea
          · rw [hc, del_same, hea]
          · rw [del_ne hc, upd_ne hc, upd_ne hb, upd_ne hc]
      rw [eH]
      have xl : Ext F1 S1 H1 F1 S1 (upd H1 dx (.xd [("position", V.int i)])) := by
        refine ⟨Same.refl _, fun b u q _ => ?_, fun _ q g => absurd g q, fun _ q => .inl q⟩
        rw [upd_ne]; exact q
        intro z; rw [z, n1] at q; cases q
      exact pp.of (x1.trans xl) (a1.sr.laid n1) (.int_i _) q
  · obtain ⟨ea, oe, vs, sI, H', cls, od, e0, J, kk, hne, ha, hz, hd, h1, na, os, ag, r, ec, dx, ws, i, ed, hx, hl, q⟩ := hu
    subst e0 ec ed
    have J1 : L2.Inv X pins σ H' s1 := by
      have J2 := J.call (g' := s1.gens) (t' := s1.toks) (d' := s1.drawn) (h' := s1.heap) (H' := H') (ch := []) (Un.kept kk) (J.hok.kept kk) ag (fun _ z => nomatch z)
      have es : ({ sI with heap := s1.heap, gens := s1.gens, drawn := s1.drawn, toks := s1.toks } : Shared) = s1 := by
        obtain ⟨h1, g1, d1, t1, o1⟩ := s1
        obtain ⟨h2, g2, d2, t2, o2⟩ := sI
        dsimp only at os ⊢
        rw [os]
      rw [es] at J2; exact J2
    have hxx : ObjOk X.prog X.w H' s1.heap dx (.xd ws) := J1.hok dx _ hx
    obtain ⟨mA, hns, hr'⟩ := hxx
    obtain ⟨oD, ho, hlk⟩ := lookIn_ns hns
    obtain ⟨u, hu, ru⟩ := RelO.some_of (v := V.int i) (o := mA "position") (by rw [← hl]; exact hr' "position")
    have IA : PySem.W.InstAt s1.heap ea oe C (some oD) := ⟨ha, hz.1, by unfold PySem.W.notCls; rw [hd] <;> rfl, by rw [hz.2]; exact ho⟩
    exact PySem.HandSPX.exc_get J1.kIn IA T.ga T.gg T.exC (PySem.W.findObj_own T.hdC hno rfl (by rw [hlk, hu])) (handed_of ru) ⟨_, H', J1.tok _, ru, q⟩
end
end DL
namespace DL
open PySem PySem.Spec L2
section
variable (P : Program) (w : World) (K : PySem.W.Frag) (mg : Str → Option Value) (base : Heap)
/-- a def that may be called by its name -/
structure Ca (k : Nat) (x : Str) (ps : List Str) (m : M) : Prop where
  ex : ∃ (f : Addr) (fd : FuncData), DF P w K mg base k f fd ps m ∧ mg x = some (.ref f) ∧ PySem.W.keepIn K (.ref f) = true ∧ Binds K fd ps []
/-- a method -/
structure Me (k : Nat) (C : Addr) (mn : Str) (ps : List Str) (m : M) : Prop where
  ex : ∃ (f : Addr) (fd : FuncData), DF P w K mg base k f fd ps m ∧ Meth K C mn f ∧ Binds K fd ps []
  cl : Cls K C
/-- a class with an __init__ -/
structure Ma (k : Nat) (x : Str) (C : Addr) (ps : List Str) (m : M) : Prop where
  ex : ∃ (f : Addr) (fd : FuncData), DF P w K mg base k f fd ps m ∧ Mk K C f ∧ mg x = some (.ref C) ∧ Binds K fd ps []
end
section
variable {P : Program} {w : World} {K : PySem.W.Frag} {mg : Str → Option Value} {base : Heap} {k j : Nat} {x mn : Str} {ps : List Str} {m m' : M} {C : Addr}
theorem Ca.mono (G : Ca P w K mg base j x ps m) (h : j ≤ k) : Ca P w K mg base k x ps m := let ⟨f, fd, h1, h2⟩ := G.ex; ⟨f, fd, h1.mono h, h2⟩
theorem Me.mono (G : Me P w K mg base j C mn ps m) (h : j ≤ k) : Me P w K mg base k C mn ps m := let ⟨f, fd, h1, h2⟩ := G.ex; ⟨⟨f, fd, h1.mono h, h2⟩, G.cl⟩
theorem Ma.mono (G : Ma P w K mg base j x C ps m) (h : j ≤ k) : Ma P w K mg base k x C ps m := let ⟨f, fd, h1, h2⟩ := G.ex; ⟨f, fd, h1.mono h, h2⟩
end
section
variable {X : Cx} {F0 : Ent} {e o : Expr} {es : List Expr} {to te : TD} {tr : TDs} {p apos pos : Pos} {x mn : Str} {C : Addr} {k : Nat} {E' : XD} {ps : List Str} {m : M}
theorem BC.blk {s : Shared} {H : Hp} {scope : Scope} {cenv : Env} {fp : List Addr} (B : BC X F0 k E') : BC (X.blk s H scope cenv fp) F0 k noX := BC.none B.room B.calm
theorem de_ca (G : Ca X.prog X.w X.K X.mg X.base k x ps m) (B : BC X F0 k E') (hg : Gl X x) (ha : DA X F0 (e :: es) tr)
    (hdb : (x == ("__debug__" : Str)) = false := by decide) (he : starEach (e :: es) X.env = (false, eval e X.env) :: starEach es X.env := by rfl) (hpl : (backTo pos (starEach es X.env)).any (·.1) = false := by rfl) :
    DE X F0 (.Call (.Name x p) (e :: es) [] pos) (tdCall m ps.length E' tr) := by
  obtain ⟨f, fd, h1, h2, h3, h4⟩ := G.ex
  exact de_call h1 B hg h2 h3 h4 ha hdb he hpl
theorem de_ca0 (G : Ca X.prog X.w X.K X.mg X.base k x ps m) (B : BC X F0 k E') (hg : Gl X x) (hdb : (x == ("__debug__" : Str)) = false := by decide) :
    DE X F0 (.Call (.Name x p) [] [] pos) (tdCall m ps.length E' tdNil) := by
  obtain ⟨f, fd, h1, h2, h3, h4⟩ := G.ex
  exact de_call0 h1 B hg h2 h3 h4 hdb
theorem de_me {pl : Sem Bool} (ho : DE X F0 o to) (G : Me X.prog X.w X.K X.mg X.base k C mn ps m) (B : BC X F0 k E') (ha : DA X F0 (e :: es) tr)
    (hst : starEach (e :: es) X.env = (false, eval e X.env) :: starEach es X.env := by rfl) (hpl : (backTo pos (starEach es X.env)).any (·.1) = false := by rfl)
    (ht : eval (.Call (.Attribute o mn apos) (e :: es) [] pos) X.env = (do
      let ov ← eval o X.env
      standAt apos.atName
      let (f, first) ← holding [ov] (getMethod ov mn pl)
      callWith pos f first (backTo pos (starEach (e :: es) X.env)) (backToKw pos (keywordEach [] X.env))) := by rfl) : DE X F0 (.Call (.Attribute o mn apos) (e :: es) [] pos) (tdMeth C mn m ps.length E' to tr) := by
  obtain ⟨f, fd, h1, h2, h3⟩ := G.ex
  exact de_meth ho G.cl h2 h1 B h3 ha hst hpl ht
theorem de_me0 {pl : Sem Bool} (ho : DE X F0 o to) (G : Me X.prog X.w X.K X.mg X.base k C mn ps m) (B : BC X F0 k E')
    (ht : eval (.Call (.Attribute o mn apos) [] [] pos) X.env = (do
      let ov ← eval o X.env
      standAt apos.atName
      let (f, first) ← holding [ov] (getMethod ov mn pl)
      callWith pos f first (backTo pos (starEach [] X.env)) (backToKw pos (keywordEach [] X.env))) := by rfl) : DE X F0 (.Call (.Attribute o mn apos) [] [] pos) (tdMeth C mn m ps.length E' to tdNil) := by
  obtain ⟨f, fd, h1, h2, h3⟩ := G.ex
  exact de_meth0 ho G.cl h2 h1 B h3 ht
theorem de_ma (G : Ma X.prog X.w X.K X.mg X.base k x C ps m) (B : BC X F0 (k + 1) E') (hg : Gl X x) (ha : DA X F0 (e :: es) tr)
    (hdb : (x == ("__debug__" : Str)) = false := by decide) (he : starEach (e :: es) X.env = (false, eval e X.env) :: starEach es X.env := by rfl) (hpl : (backTo pos (starEach es X.env)).any (·.1) = false := by rfl) :
    DE X F0 (.Call (.Name x p) (e :: es) [] pos) (tdMake C m ps.length E' tr) := by
  obtain ⟨f, fd, h1, h2, h3, h4⟩ := G.ex
  exact de_make h2 h1 B hg h3 h4 ha hdb he hpl
/-- globals -/
theorem de_gstr {z : Str} {t : Tx} (hm : ∃ tk, X.mg x = some (.str z tk)) (hg : Gl X x) (hz : z = tS t := by first | exact ofString_tx _ | rfl) (hd : (x == ("__debug__" : Str)) = false := by decide) : DE X F0 (.Name x pos) (tdC (.str t)) := by
  obtain ⟨tk, hm⟩ := hm
  subst hz
  exact de_glob (v := .str (tS t)) hg hm ⟨_, rfl⟩ (fun _ => .str_i _) hd
theorem de_gint {i : Int} (hm : ∃ tk, X.mg x = some (.int i tk)) (hg : Gl X x) (hd : (x == ("__debug__" : Str)) = false := by decide) : DE X F0 (.Name x pos) (tdC (.int i)) := by
  obtain ⟨tk, hm⟩ := hm
  exact de_glob (v := .int i) hg hm ⟨_, rfl⟩ (fun _ => .int_i _) hd
theorem de_gref {a : Addr} (hm : X.mg x = some (.ref a)) (hg : Gl X x) (hd : (x == ("__debug__" : Str)) = false := by decide) : DE X F0 (.Name x pos) (tdC (.ref a)) :=
  de_glob (v := .ref a) hg hm rfl (fun _ => .ref_i _) hd
theorem rdS {K : PySem.W.Frag} {F : Hp} : ∀ {ts : List Tx} {zs : List Str}, zs = ts.map tS → RelDs K F (ts.map D.str) (zs.map V.str)
  | [], _, h => by subst h; unfold RelDs; rfl
  | t :: ts, _, h => by
    subst h
    unfold RelDs
    exact ⟨_, _, rfl, .str_i _, rdS rfl⟩
theorem de_gtup {zs : List Str} {ts : List Tx} {a : Addr} (hm : X.mg x = some (.ref a)) (hT : ∀ H, SqT X.K H a (zs.map V.str)) (hz : zs = ts.map tS) (hg : Gl X x) (hd : (x == ("__debug__" : Str)) = false := by decide) : DE X F0 (.Name x pos) (tdC (.tup (ts.map D.str))) :=
  de_glob (v := .ref a) hg hm rfl (fun F => .tup_i (hT F) (rdS hz)) hd
end
section
variable {X : Cx} {F0 : Ent} {e o : Expr} {t to : TD} {f : Str} {pos pos' : Pos}
theorem de_fldK (K : PySem.W.Frag) (hK : X.K = K) (he : DE X F0 e t) (hb : attributeBase e f X.env (eval e X.env) = eval e X.env := by rfl) : DE X F0 (.Attribute e f pos) (tdFldC K t f) := hK ▸ de_fld he hb
theorem ds_putFK (K : PySem.W.Frag) (hK : X.K = K) (ho : DE X F0 o to) (he : DE X F0 e t) (hs : swapsWith e (some (.Attribute o f pos')) pos.line X.env = pure false := by rfl) : DS X F0 (.Assign [.Attribute o f pos'] e pos) (tdPutF K to t f) := hK ▸ ds_putF ho he hs
theorem ds_augFK (K : PySem.W.Frag) (hK : X.K = K) {op : Operator} {g : Int → Int → Int} {rd : V → V → Hp → VK → Prop} (ho : DE X F0 o to) (he : DE X F0 e t) (hop : InOp X op rd) (hrd : ∀ i j H (Q : VK), Q (.int (g i j)) H → rd (.int i) (.int j) H Q) :
    DS X F0 (.AugAssign (.Attribute o f pos') op e pos) (tdAugF K to t f g) := hK ▸ ds_augF ho he hop hrd
end
section
variable {X : Cx} {F0 : Ent} {e : Expr} {t : TD} {pos : Pos}
def tdNeg (t : TD) : TD := fun ρ S Q => t ρ S fun d S1 => ∃ i, d = .int i ∧ Q (.int (-i)) S1
theorem de_neg (he : DE X F0 e t) : DE X F0 (.UnaryOp .USub e pos) (tdNeg t) := PE.weak (pe_un un_neg he) fun σ H Q ⟨F, S, ρ, Q', a, h, p⟩ => EL.go a h fun v H1 F1 S1 d x1 a1 r1 ⟨i, e1, q⟩ => by
  subst e1
  exact ⟨i, r1.int_e, p.of x1 a1.sr (.int_i _) q⟩
end
theorem bb_len : bootBuiltins "len" = some (.builtin "len") := (by decide +kernel)
theorem bb_max : bootBuiltins "max" = some (.builtin "max") := (by decide +kernel)
theorem bb_isinstance : bootBuiltins "isinstance" = some (.builtin "isinstance") := (by decide +kernel)
theorem bb_int : bootBuiltins "int" = some (.type "int") := (by decide +kernel)
theorem bb_str : bootBuiltins "str" = some (.type "str") := (by decide +kernel)
theorem bb_bool : bootBuiltins "bool" = some (.type "bool") := (by decide +kernel)
theorem bb_list : bootBuiltins "list" = some (.type "list") := (by decide +kernel)
theorem bb_tuple : bootBuiltins "tuple" = some (.type "tuple") := (by decide +kernel)
theorem while_ind {c : TDT} {tb : TDS} {D : DEnds} (I : Nat → Rho → Store → Prop)
    (h : ∀ n ρ S (W : Rho → Store → Prop), (∀ ρ S, I n ρ S → W ρ S) → I (n + 1) ρ S → c ρ S (fun b S1 => if b = true then tb { D with nx := W, ct := W, bk := D.nx } ρ S1 else D.nx ρ S1)) :
    (h0 : ∀ ρ S, ¬ I 0 ρ S) → ∀ (n : Nat) (ρ : Rho) (S : Store), I n ρ S → whileN c tb D n ρ S := fun h0 n => by
  induction n with
  | zero => exact fun ρ S hi => absurd hi (h0 ρ S)
  | succ n ih =>
    intro ρ S hi
    unfold whileN
    exact h n ρ S _ ih hi
theorem for_ind {g : TDG} {tb : TDS} {D : DEnds} (I : List DL.D → Rho → Store → Prop) (h0 : ∀ ρ S, I [] ρ S → D.nx ρ S)
    (h : ∀ d ds ρ S (W : Rho → Store → Prop), (∀ ρ S, I ds ρ S → W ρ S) → I (d :: ds) ρ S → g d ρ S fun ρ1 S1 => tb { D with nx := W, ct := W, bk := D.nx } ρ1 S1) :
    ∀ (ds : List DL.D) (ρ : Rho) (S : Store), I ds ρ S → forR g tb D ds ρ S
  | [], ρ, S, hi => h0 ρ S hi
  | d :: ds, ρ, S, hi => by
    unfold forR
    exact h d ds ρ S _ (fun ρ S q => for_ind I h0 h ds ρ S q) hi
theorem lc_ind {v : Nat} {tt : TDT} {te : TD} {ρ : Rho} {Q : List D → Store → Prop} (I : List D → List D → Store → Prop) (h0 : ∀ acc S, I [] acc S → Q acc S)
    (h : ∀ d ds acc S (W : List D → Store → Prop), (∀ acc S, I ds acc S → W acc S) → I (d :: ds) acc S → tt (ρ.set v (some d)) S fun b S1 => if b = true then te (ρ.set v (some d)) S1 fun y S2 => acc.length < sizeLine ∧ W (acc ++ [y]) S2 else W acc S1) :
    ∀ (ds acc : List D) (S : Store), I ds acc S → lcR v tt te ρ ds acc S Q
  | [], acc, S, hi => h0 acc S hi
  | d :: ds, acc, S, hi => by
    unfold lcR
    exact h d ds acc S (fun acc S => lcR v tt te ρ ds acc S Q) (fun acc S q => lc_ind I h0 h ds acc S q) hi
end DL
namespace DL
open PySem PySem.Spec L2
section
variable {α : Type} {xs : List α}
theorem atIn (i : Nat) : atI xs (i : Int) = xs[i]? := by
  unfold atI ixN
  rw [if_pos (by omega)]
  by_cases h : i < xs.length
  · rw [if_pos (by omega)]; simp
  · rw [if_neg (by omega), List.getElem?_eq_none (by omega)]; rfl
theorem atI_0 : atI xs 0 = xs[0]? := atIn 0
theorem atI_1 : atI xs 1 = xs[1]? := atIn 1
theorem atI_2 : atI xs 2 = xs[2]? := atIn 2
theorem atI_3 : atI xs 3 = xs[3]? := atIn 3
theorem atI_4 : atI xs 4 = xs[4]? := atIn 4
theorem atI_m1 : atI xs (-1) = xs.getLast? := by
  unfold atI ixN
  rw [if_neg (by omega)]
  cases xs with
  | nil => simp
  | cons x l =>
    rw [if_pos (by simp; omega)]
    rw [List.getLast?_eq_getElem?]
    show (x :: l)[((-1 : Int) + ((x :: l).length : Nat)).toNat]? = _
    congr 1
    simp; omega
theorem cutL_nn (a b : Nat) : cutL xs (some (a : Int)) (some (b : Int)) = (xs.drop a).take (b - a) := by
  unfold cutL
  rw [HT.sIx_nat, HT.sIx_nat]
  by_cases h : a ≤ xs.length
  · rw [Nat.min_eq_left h]
    by_cases g : b ≤ xs.length
    · rw [Nat.min_eq_left g]
    · rw [Nat.min_eq_right (by omega), List.take_of_length_le (by simp), List.take_of_length_le (by simp; omega)]
  · have e : xs.drop (min a xs.length) = [] := List.drop_eq_nil_of_le (by omega)
    rw [e, List.drop_eq_nil_of_le (show xs.length ≤ a by omega)]; simp
theorem cutL_n (a : Nat) : cutL xs (some (a : Int)) none = xs.drop a := by
  unfold cutL
  rw [HT.sIx_nat]
  show List.take (xs.length - _) _ = _
  by_cases h : a ≤ xs.length
  · rw [Nat.min_eq_left h, List.take_of_length_le (by simp)]
  · rw [Nat.min_eq_right (by omega), List.drop_eq_nil_of_le (Nat.le_refl _), List.drop_eq_nil_of_le (by omega)]; simp
theorem cutL_to (b : Nat) : cutL xs none (some (b : Int)) = xs.take b := by
  unfold cutL
  rw [HT.sIx_nat]
  show List.take (_ - 0) (xs.drop 0) = _
  by_cases g : b ≤ xs.length
  · rw [Nat.min_eq_left g]; simp
  · rw [Nat.min_eq_right (by omega)]
    simp
    rw [List.take_of_length_le (by omega)]
theorem tw_lt (p : α → Bool) : ∀ (l : List α) (j : Nat), j ≤ (l.takeWhile p).length → (j < (l.takeWhile p).length ↔ ∃ c, l[j]? = some c ∧ p c = true)
  | [], j, h => by simp
  | x :: l, j, h => by
    by_cases hx : p x = true
    · rw [List.takeWhile_cons_of_pos hx] at h ⊢
      cases j with
      | zero => simp [hx]
      | succ j =>
        have := tw_lt p l j (by simpa using h)
        simpa using this
    · rw [List.takeWhile_cons_of_neg hx] at h ⊢
      have : j = 0 := by simpa using h
      subst this
      simp [hx]
theorem tw_take (p : α → Bool) : ∀ (l : List α), l.take (l.takeWhile p).length = l.takeWhile p
  | [] => rfl
  | x :: l => by
    by_cases hx : p x = true
    · rw [List.takeWhile_cons_of_pos hx]; simp [tw_take p l]
    · rw [List.takeWhile_cons_of_neg hx]; rfl
theorem tw_le (p : α → Bool) : ∀ (l : List α), (l.takeWhile p).length ≤ l.length
  | [] => Nat.le_refl _
  | x :: l => by
    by_cases hx : p x = true
    · rw [List.takeWhile_cons_of_pos hx]; simp [tw_le p l]
    · rw [List.takeWhile_cons_of_neg hx]; simp
end
theorem gIn_str {f : Bool → Bool} {S : Store} {c : Nat} {z : Tx} {Q : D → Store → Prop} (h : Q (.bl (f (decide (c ∈ z)))) S) : gIn f S (.str [c]) (.str z) Q := ⟨c, rfl, h⟩
theorem fini {Q : D → Store → Prop} {d : D} {S : Store} (h : Q d S) : Fini Q d S := .of h
theorem sz5 {n : Nat} (h : n ≤ 1000000) : n ≤ sizeLine := by rw [sizeLine_eq]; omega
theorem gIn_sc {f : Bool → Bool} {S : Store} {c : Nat} {z : Tx} {Q : D → Store → Prop} : gIn f S (.str [c]) (.str z) Q = Q (.bl (f (decide (c ∈ z)))) S := by
  apply propext
  constructor
  · rintro ⟨c', e, q⟩
    have e' : c = c' := by simpa using e
    subst e'; exact q
  · exact fun q => ⟨c, rfl, q⟩
theorem any_str (x : Tx) : ∀ (l : List Tx), ((l.map D.str).any fun y => eqF y (.str x)) = decide (x ∈ l)
  | [] => rfl
  | y :: l => by
    rw [List.map_cons, List.any_cons, any_str x l]
    show (y == x || _) = _
    by_cases h : y = x
    · simp [h]
    · have h' : ¬ x = y := fun z => h z.symm
      simp [h, h']
theorem all_flat : ∀ (l : List Tx), (l.map D.str).all flatD = true
  | [] => rfl
  | y :: l => by rw [List.map_cons, List.all_cons, all_flat l]; rfl
theorem gIn_ts {f : Bool → Bool} {S : Store} {x : Tx} {ts : List Tx} {Q : D → Store → Prop} : gIn f S (.str x) (.tup (ts.map D.str)) Q = Q (.bl (f (decide (x ∈ ts)))) S := by
  show (flatD (.str x) = true ∧ _ ∧ _) = _
  rw [all_flat, any_str]; simp [flatD]
theorem gIn_ls {f : Bool → Bool} {S : Store} {x : Tx} {ts : List Tx} {Q : D → Store → Prop} : gIn f S (.str x) (.lst (ts.map D.str)) Q = Q (.bl (f (decide (x ∈ ts)))) S := by
  show (flatD (.str x) = true ∧ _ ∧ _) = _
  rw [all_flat, any_str]; simp [flatD]
theorem gIn_t2 {f : Bool → Bool} {S : Store} {x a b : Tx} {Q : D → Store → Prop} : gIn f S (.str x) (.tup [.str a, .str b]) Q = Q (.bl (f (decide (x ∈ [a, b])))) S := gIn_ts (ts := [a, b])
theorem gIn_l2 {f : Bool → Bool} {S : Store} {x a b : Tx} {Q : D → Store → Prop} : gIn f S (.str x) (.lst [.str a, .str b]) Q = Q (.bl (f (decide (x ∈ [a, b])))) S := gIn_ls (ts := [a, b])
theorem gIn_l4 {f : Bool → Bool} {S : Store} {x a b c d : Tx} {Q : D → Store → Prop} : gIn f S (.str x) (.lst [.str a, .str b, .str c, .str d]) Q = Q (.bl (f (decide (x ∈ [a, b, c, d])))) S := gIn_ls (ts := [a, b, c, d])
theorem sl_0 {α : Type} : (([] : List α).length ≤ sizeLine) = True := eq_true (Nat.zero_le _)
theorem sl_1 {α : Type} {a : α} : ([a].length ≤ sizeLine) = True := eq_true (sz5 (show 1 ≤ _ by omega))
theorem sl_2 {α : Type} {a b : α} : ([a, b].length ≤ sizeLine) = True := eq_true (sz5 (show 2 ≤ _ by omega))
theorem sl_3 {α : Type} {a b c : α} : ([a, b, c].length ≤ sizeLine) = True := eq_true (sz5 (show 3 ≤ _ by omega))
theorem sl_4 {α : Type} {a b c d : α} : ([a, b, c, d].length ≤ sizeLine) = True := eq_true (sz5 (show 4 ≤ _ by omega))
theorem sl_5 {α : Type} {a b c d e : α} : ([a, b, c, d, e].length ≤ sizeLine) = True := eq_true (sz5 (show 5 ≤ _ by omega))
theorem lm_0 {α β : Type} {b : β} : (([] : List α).length + 1 = [b].length) = True := eq_true rfl
theorem lm_1 {α β : Type} {a : α} {b b' : β} : ([a].length + 1 = [b, b'].length) = True := eq_true rfl
theorem lm_2 {α β : Type} {a a' : α} {b b' b2 : β} : ([a, a'].length + 1 = [b, b', b2].length) = True := eq_true rfl
theorem ln_0 {α β : Type} : (([] : List α).length = ([] : List β).length) = True := eq_true rfl
theorem ln_1 {α β : Type} {a : α} {b : β} : ([a].length = [b].length) = True := eq_true rfl
theorem ln_2 {α β : Type} {a a' : α} {b b' : β} : ([a, a'].length = [b, b'].length) = True := eq_true rfl
theorem ln_3 {α β : Type} {a a' a2 : α} {b b' b2 : β} : ([a, a', a2].length = [b, b', b2].length) = True := eq_true rfl
theorem icE' (a b : Nat) : ((a : Int) = (b : Int)) = (a = b) := propext ⟨fun h => Int.ofNat.inj h, fun h => h ▸ rfl⟩
theorem icast (a b : Nat) : (a : Int) + (b : Int) = ((a + b : Nat) : Int) := rfl
theorem icast1 (a : Nat) : (a : Int) + 1 = ((a + 1 : Nat) : Int) := rfl
theorem icast2 (a : Nat) : (a : Int) + 2 = ((a + 2 : Nat) : Int) := rfl
theorem icast3 (a : Nat) : (a : Int) + 3 = ((a + 3 : Nat) : Int) := rfl
theorem icE12 (a : Nat) : ((a : Int) = 12) = (a = 12) := icE' a 12
theorem icE200 (a : Nat) : ((a : Int) = 200) = (a = 200) := icE' a 200
theorem icS1 (a : Nat) : ((a + 1 : Nat) : Int) - 1 = (a : Int) := by omega
theorem icastL (a b : Nat) : ((a : Int) < (b : Int)) = (a < b) := propext Int.ofNat_lt
theorem icastE (a b : Nat) : ((a : Int) = (b : Int)) = (a = b) := propext ⟨fun h => Int.ofNat.inj h, fun h => h ▸ rfl⟩
theorem icastZ (a : Nat) : ((a : Int) = 0) = (a = 0) := icastE a 0
theorem ff (p q : Prop) : (if false = true then p else q) = q := if_neg Bool.false_ne_true
theorem tt' (p q : Prop) : (if true = true then p else q) = p := if_pos rfl
theorem dt {p : Prop} [Decidable p] (h : p) : decide p = true := decide_eq_true h
theorem df {p : Prop} [Decidable p] (h : ¬ p) : decide p = false := decide_eq_false h
/-- a cut between statements -/
theorem seq_cut {t u : TDS} {D : DEnds} {ρ : Rho} {S : Store} (I : Rho → Store → Prop) (h1 : ∀ Rest : Rho → Store → Prop, (∀ ρ S, I ρ S → Rest ρ S) → t { D with nx := Rest } ρ S) (h2 : ∀ ρ S, I ρ S → u D ρ S) : tdSeq t u D ρ S := h1 _ h2
end DL
namespace DL
open PySem PySem.Spec L2
section
variable {X : Cx} {F0 : Ent} {a b e o i : Expr} {ta tb t to ti te : TD} {pos apos cpos : Pos} {x : Str} {p : Pos}
def tdPop (to : TD) : TD := fun ρ S Q => to ρ S fun x S1 => ∃ a ds d, x = .ref a ∧ S1 a = some (.lst ds) ∧ ds[ds.length - 1]? = some d ∧ Q d (sup S1 a (.lst ds.dropLast))
theorem RelDs.dropLast {K : PySem.W.Frag} {F : Hp} : ∀ {ds : List D} {vs : List V}, RelDs K F ds vs → RelDs K F ds.dropLast vs.dropLast
  | [], vs, h => by
    obtain rfl : vs = [] := by unfold RelDs at h; exact h
    exact .nil
  | [d], vs, h => by
    obtain ⟨v, rfl, _⟩ := rds1 h
    exact .nil
  | d :: d2 :: ds, vs, h => by
    unfold RelDs at h
    obtain ⟨v, r, rfl, h1, h2⟩ := h
    have h3 := RelDs.dropLast h2
    unfold RelDs at h2
    obtain ⟨v2, r2, rfl, h4, h5⟩ := h2
    exact .cons h1 h3
theorem de_pop (ho : DE X F0 o to) (hbase : attributeBase o "pop" X.env (eval o X.env) = eval o X.env := by rfl) (hline : (apos.endLine == cpos.line) = true := by rfl) :
    DE X F0 (.Call (.Attribute o "pop" apos) [] [] cpos) (tdPop to) :=
  PE.weak (pe_bm0 PySem.F.plainAttrs_list PySem.F.slot_list_pop PySem.F.type_list_pop mt_pop ho hbase hline) fun σ H Q ⟨F, S, ρ, Q', at0, h, p⟩ => by
    refine EL.go at0 h fun v H1 F1 S1 d x1 a1 r1 ⟨b, ds, y, e1, e2, e3, q⟩ => ?_
    subst e1
    obtain ⟨vs, h1, h2⟩ := a1.sr.lst e2
    obtain ⟨w, k1, k2⟩ := h2.get e3
    rw [r1.ref_e]
    refine ⟨.inl ⟨rfl, vs, .of h1⟩, b, vs, w, rfl, rfl, h1, by rw [h2.length]; exact k1, ?_⟩
    exact p.of (x1.trans (a1.sr.ext_write e2)) (a1.sr.write (o := .lst _) e2 ⟨_, rfl, RelDs.dropLast h2⟩) k2 q
theorem valD_no {K : PySem.W.Frag} {F : Hp} : ∀ {kvs : List (DK × D)} {ws : List (Key × V)} {k : DK}, RelF K F (kmap kvs) ws → valD kvs k = none → valV ws (kk k) = none
  | [], ws, k, h, e => by
    obtain rfl : ws = [] := h
    rfl
  | (k', d) :: r, ws, k, h, e => by
    obtain ⟨v, q, rfl, h1, h2⟩ := h
    unfold valD at e
    by_cases hk : k' = k
    · rw [if_pos hk] at e; cases e
    · rw [if_neg hk] at e
      rw [valV_neg (fun z => hk (kk_inj z))]
      exact valD_no h2 e
def tdGet2 (to ti te : TD) : TD := fun ρ S Q => to ρ S fun x S1 => ∃ a kvs, x = .ref a ∧ S1 a = some (.dic kvs) ∧ ti ρ S1 fun y S2 => te ρ S2 fun z S3 => ∃ kvs' k, S3 a = some (.dic kvs') ∧ y = kD k ∧ Q ((valD kvs' k).getD z) S3
theorem de_get2 (hu : X.A.units + 1 < cLine) (ho : DE X F0 o to) (hi : DE X F0 i ti) (he : DE X F0 e te)
    (m1 : attributeBase o "get" X.env (eval o X.env) = eval o X.env := by rfl)
    (m2 : ((backTo cpos (starEach [i, e] X.env)).all (fun x => !x.1) && (backToKw cpos (keywordEach [] X.env)).all (fun x => x.1.isSome)
      && decide (([i, e] : List Expr).length + ([] : List Keyword).length + (if ([] : List Keyword).isEmpty then 0 else 1) < 30)) = true := by rfl)
    (m3 : (apos.endLine == cpos.line) = true := by rfl) (m4 : backTo cpos (starEach [i, e] X.env) = [(false, eval i X.env), (false, eval e X.env)] := by rfl) :
    DE X F0 (.Call (.Attribute o "get" apos) [i, e] [] cpos) (tdGet2 to ti te) :=
  PE.weak (pe_dget2 hu ho hi he ⟨m1, m2, m3, m4⟩) fun σ H Q ⟨F, S, ρ, Q', at0, h, p⟩ => EL.go at0 h fun v1 H1 F1 S1 d1 x1 a1 r1 ⟨b, kvs0, e1, e2, q1⟩ => by
    subst e1
    obtain ⟨ws0, h01, h02⟩ := a1.sr.dic e2
    refine ⟨b, r1.ref_e, .inl ⟨_, .inl h01⟩, EL.go a1 q1 fun v2 H2 F2 S2 d2 x2 a2 r2 q2 => EL.go a2 q2 fun v3 H3 F3 S3 d3 x3 a3 r3 ⟨kvs, k, e3, e4, q⟩ => ?_⟩
    subst e4
    obtain ⟨ws, h1, h2⟩ := a3.sr.dic e3
    refine ⟨valV ws (kk k), ?_, ?_⟩
    · rw [kD_rel r2]
      exact DGet.k h1
    · cases z : valD kvs k with
      | none =>
        rw [z] at q
        rw [valD_no h2 z]
        exact p.of ((x1.trans x2).trans x3) a3.sr r3 q
      | some d =>
        rw [z] at q
        obtain ⟨w, h3, h4⟩ := valD_rel h2 z
        rw [h3]
        exact p.of ((x1.trans x2).trans x3) a3.sr h4 q
/-- a whole number or a text as a value -/
def scV : D → Option V
  | .int i => some (.int i)
  | .str x => some (.str (tS x))
  | _ => none
theorem scV_rel {K : PySem.W.Frag} {F : Hp} {d : D} {v : V} (h : scV d = some v) : RelD K F d v := by
  cases d with
  | int i => cases h; exact .int_i _
  | str x => cases h; exact .str_i _
  | _ => cases h
def TbV (K : PySem.W.Frag) (a : Addr) (x : Tx) : Option D → Prop
  | none => PySem.W.nsIn K a (tS x) = some none
  | some d => ∃ u v, PySem.W.nsIn K a (tS x) = some (some u) ∧ scV d = some v ∧ RelV v u
/-- the dict at a, as far as kvs tells it -/
structure Tb (K : PySem.W.Frag) (w : World) (a : Addr) (kvs : List (Tx × Option D)) : Prop where
  kd : ∃ es n, KDict K w a es n
  val : ∀ x o, kvs.lookup x = some o → TbV K a x o
def tdKGet (kvs : List (Tx × Option D)) (ti : TD) : TD := fun ρ S Q => ti ρ S fun y S1 => ∃ x d, y = .str x ∧ kvs.lookup x = some (some d) ∧ Q d S1
def tdKGet2 (kvs : List (Tx × Option D)) (ti te : TD) : TD := fun ρ S Q => ti ρ S fun y S1 => te ρ S1 fun z S2 => ∃ x o, y = .str x ∧ kvs.lookup x = some o ∧ Q (o.getD z) S2
theorem de_kget {kvs : List (Tx × Option D)} {ad : Addr} (T : Tb X.K X.w ad kvs) (hg : Gl X x) (hm : X.mg x = some (.ref ad)) (hi : DE X F0 i ti) (hs : NoSl i := by exact fun _ _ => rfl) (hdb : (x == ("__debug__" : Str)) = false := by decide) :
    DE X F0 (.Subscript (.Name x p) i pos) (tdKGet kvs ti) := by
  obtain ⟨es, n, D⟩ := T.kd
  refine ⟨fun pins s σ H Q I h => ?_⟩
  refine subD_of PySem.F.slot_dict_getitem.lookup hs (ld_glob I hg hm (thn (hi.run pins s σ H (fun v H1 => ∃ u0 v0 z, v = .str z ∧ PySem.W.nsIn X.K ad z = some (some u0) ∧ RelV v0 u0 ∧ Q v0 H1) I ?_) fun iv s2 ⟨y, H2, I2, ry, u0, v0, z, ey, hn, hr, q⟩ => ?_) hdb)
  · obtain ⟨F, S, ρ, Q', at0, h, pp⟩ := h
    refine EL.go at0 h fun v H1 F1 S1 d x1 a1 r1 ⟨y, d2, e1, e2, q⟩ => ?_
    subst e1
    obtain ⟨u, v0, e3, e4, e5⟩ := T.val _ _ e2
    exact ⟨u, v0, tS y, r1.str_e, e3, e5, pp.of x1 a1.sr (scV_rel e4) q⟩
  · subst ey
    obtain ⟨t, rfl⟩ := ry
    exact ⟨kd_type D I2, wpAny_getItem_of (PySem.strKind_is X.prog X.w z t) (PySem.W.mapOf_K (prog := X.prog) I2.kIn D.at_ D.lit) (PySem.W.find_K D.at_ hn) ⟨v0, H2, I2.tok _, hr, q⟩⟩
theorem de_kget2 {kvs : List (Tx × Option D)} {ad : Addr} (T : Tb X.K X.w ad kvs) (hg : Gl X x) (hm : X.mg x = some (.ref ad)) (hi : DE X F0 i ti) (he : DE X F0 e te) (hdb : (x == ("__debug__" : Str)) = false := by decide)
    (m1 : attributeBase (.Name x p) "get" X.env (eval (.Name x p) X.env) = eval (.Name x p) X.env := by rfl)
    (m2 : ((backTo cpos (starEach [i, e] X.env)).all (fun x => !x.1) && (backToKw cpos (keywordEach [] X.env)).all (fun x => x.1.isSome)
      && decide (([i, e] : List Expr).length + ([] : List Keyword).length + (if ([] : List Keyword).isEmpty then 0 else 1) < 30)) = true := by rfl)
    (m3 : (apos.endLine == cpos.line) = true := by rfl) (m4 : backTo cpos (starEach [i, e] X.env) = [(false, eval i X.env), (false, eval e X.env)] := by rfl) :
    DE X F0 (.Call (.Attribute (.Name x p) "get" apos) [i, e] [] cpos) (tdKGet2 kvs ti te) := by
  obtain ⟨es, n, D⟩ := T.kd
  refine ⟨fun pins s σ H Q I h => ?_⟩
  refine wpAny_Call_method m1 m2 m3 PySem.F.plainAttrs_dict PySem.F.slot_dict_get PySem.F.type_dict_get (ld_glob I hg hm ?_ hdb)
  refine ⟨kd_type D I, fun b e => by cases e; exact ⟨_, I.kIn _ _ D.at_, rfl⟩, ?_⟩
  rw [m4]
  obtain ⟨F, S, ρ, Q', at0, h, pp⟩ := h
  refine Calls.callWith_builtin rfl (Calls.evalArgs_plain (Calls.spliced_cons (thn (hi.run pins s σ H (fun v H1 => ∃ F1 S1 y, Ext F S H F1 S1 H1 ∧ At X.K F0 F1 S1 H1 ρ σ ∧ RelD X.K F1 y v ∧ te ρ S1 fun z S2 => ∃ x o, y = .str x ∧ kvs.lookup x = some o ∧ Q' (o.getD z) S2) I
    (EL.go at0 h fun v H1 F1 S1 d x1 a1 r1 q => ⟨F1, S1, d, x1, a1, r1, q⟩)) fun iv s1 ⟨y, H1, I1, ry, F1, S1, yd, x1, a1, r1, q1⟩ => Calls.spliced_cons (thn (he.run pins s1 σ H1 (fun v H2 => ∃ F2 S2 z, Ext F1 S1 H1 F2 S2 H2 ∧ At X.K F0 F2 S2 H2 ρ σ ∧ RelD X.K F2 z v ∧
      ∃ x o, yd = .str x ∧ kvs.lookup x = some o ∧ Q' (o.getD z) S2) I1 (EL.go a1 q1 fun v H2 F2 S2 d x2 a2 r2 q => ⟨F2, S2, d, x2, a2, r2, q⟩)) fun fv s2 ⟨z, H2, I2, rz, F2, S2, zd, x2, a2, r2, tx0, o, e1, e2, q2⟩ => Calls.spliced_nil ?_))))
  subst e1
  obtain rfl := r1.str_e
  obtain ⟨t, rfl⟩ := ry
  refine call_meetsIn PySem.F.slot_dict_get (kd_type D I2) PySem.F.entry_dict_get (PySem.F.args_dict_get_3 _ _ _) (meets_dict_get_default (strKind X.prog X.w) ad (k := tS tx0) (PySem.strKind_is X.prog X.w (tS tx0) t) D.low fv) ⟨_, PySem.W.mapOf_K (prog := X.prog) I2.kIn D.at_ D.lit, ?_⟩
  have hv := T.val _ _ e2
  cases o with
  | none =>
    have hv : PySem.W.nsIn X.K ad (tS tx0) = some none := hv
    show EP X pins σ Q ((findBy Value.isStrOf es (tS tx0)).getD fv) _
    rw [PySem.W.find_K D.at_ hv]
    exact ⟨z, H2, I2.tok _, rz, pp.of (x1.trans x2) a2.sr r2 q2⟩
  | some d =>
    obtain ⟨u, v0, e3, e4, e5⟩ := hv
    show EP X pins σ Q ((findBy Value.isStrOf es (tS tx0)).getD fv) _
    rw [PySem.W.find_K D.at_ e3]
    exact ⟨v0, H2, I2.tok _, e5, pp.of (x1.trans x2) a2.sr (scV_rel e4) q2⟩
end
end DL
namespace DL
open PySem PySem.Spec L2
section
variable {X : Cx} {x : Str} {C : Addr} {body suite : List Stmt} {b₀ : Stmt} {np pos pos' : Pos} {tb : XD → TDS} {ts : TDS} {k : Nat} {F0 : Ent}
def tdTryO (C : Addr) (n : Nat) (tb : XD → TDS) (ts : TDS) : TDS := fun D ρ S => tb (fun x S' => x.C = C ∧ ts D (List.replicate n none) S') D ρ S
theorem ds_tryO (ln : Nat) (hln2 : X.N.length = ln) (hs : X.stack = X.env :: X.outer) (hf : X.env.frame = some X.env.locals) (hr : Rm k X.A) (hcalm : X.calm = true) (hc : Names X x (.ref C)) (hx : PySem.W.exmOne X.K (.ref C) (.ref C) = some true)
    (hb : ∀ (F1 : Ent) (pn : List (Addr × Obj)) (xe : Value → Shared → Prop) (E' : XD), PassesOwn (model X.prog X.w) X.A X.env xe → BC (X.tr pn xe) F1 k E' → DSs (X.tr pn xe) F1 body (tb E'))
    (hsu : ∀ (F1 : Ent) (a : Addr) (oe : Obj) (pn : List (Addr × Obj)), DSs (X.suite a ((a, oe) :: pn)) F1 (b₀ :: suite) ts) :
    DS X F0 (.Try body [.ExceptHandler (some (.Name x np)) none (b₀ :: suite) pos'] [] [] pos) (tdTryO C ln tb ts) := by
  subst hln2
  refine PS.weak (ps_try_only (c := .ref C) (Wout := fun _ _ _ _ => False) (ts := fun a cls d D σ H => ∃ F1, SL X.K F1 ts D σ H)
    (tb := fun W D σ H => ∃ F1 E', (∀ F' S' H' x cls od (σ : L2.St), σ.length = X.N.length → Ext F1.F F1.S F1.H F' S' H' → SR X.K F' S' H' → ExnRel X.K F' x cls od H' → E' x S' → W cls od σ H') ∧ SL X.K F1 (tb E') D σ H)
    hs hf hc (fun u s' ⟨a, B, sI, pins, σ, H, cls, d, e, I, nb, up, sky, na, os, ag, w⟩ => w.elim) (fun W pn xe tk po => ?_) (fun a oe cls d pn hz hv => ?_)) fun D σ H ⟨F, S, ρ, D', a, h, p⟩ => ?_
  · exact ⟨fun pins s σ H D I ⟨F1, E', hE, h⟩ => (hb F1 pn xe E' po ⟨hr, hcalm, W, tk, hE⟩).run pins s σ H D I h⟩
  · exact ⟨fun pins s σ H D I ⟨F1, h⟩ => (hsu F1 a oe pn).run pins s σ H D I h⟩
  · refine ⟨⟨F, S, H⟩, _, fun F' S' H' y cls od σ' hl z sr er q => ?_, F, S, ρ, D', ⟨Ext.refl _ _ _, a.sr, a.env⟩, h, p⟩
    obtain ⟨q1, q3⟩ := q
    obtain ⟨e1, e2⟩ := er
    rw [q1] at e1; subst e1
    refine ⟨true, hx, fun _ a _ => ⟨⟨F', S', H'⟩, F', S', _, D', ⟨Ext.refl _ _ _, sr, by simp [hl], fun j d q => ?_⟩, q3, p.ext z⟩, fun z => by cases z⟩
    rw [List.getElem?_replicate] at q
    split at q <;> cases q
end
def setD : Rho → List Nat → List D → Rho
  | ρ, v :: vs, d :: ds => setD (ρ.set v (some d)) vs ds
  | ρ, _, _ => ρ
def setV : L2.St → List Nat → List V → L2.St
  | σ, v :: vs, d :: ds => setV (σ.set v (some d)) vs ds
  | σ, _, _ => σ
def gNames : List Nat → TGs
  | [] => gNil
  | v :: vs => gCons (gName v) (gNames vs)
theorem gNames_go : ∀ {vs : List Nat} {xs : List V} {σ : L2.St} {H : Hp} {Q : L2.St → Hp → Prop}, xs.length = vs.length → Q (setV σ vs xs) H → gNames vs xs σ H Q
  | [], [], _, _, _, _, q => ⟨rfl, q⟩
  | v :: vs, x :: xs, σ, H, Q, h, q => ⟨x, xs, rfl, gNames_go (vs := vs) (xs := xs) (σ := σ.set v (some x)) (by simpa using h) q⟩
theorem wipe_set {σ : L2.St} {v : Nat} {o : Option V} : ∀ {vs : List Nat}, v ∈ vs → wipe (σ.set v o) vs = wipe σ vs
  | u :: vs, h => by
    show (wipe (σ.set v o) vs).set u none = (wipe σ vs).set u none
    by_cases e : v ∈ vs
    · rw [wipe_set e]
    · have e2 : v = u := by
        rcases List.mem_cons.mp h with z | z
        · exact z
        · exact absurd z e
      subst e2
      have key : ∀ ws : List Nat, ¬ v ∈ ws → wipe (σ.set v o) ws = (wipe σ ws).set v o := by
        intro ws
        induction ws with
        | nil => intro _; rfl
        | cons w ws ih =>
          intro hw
          have h1 : ¬ v = w := fun z => hw (by rw [z]; exact List.mem_cons_self)
          have h2 : ¬ v ∈ ws := fun z => hw (List.mem_cons_of_mem _ z)
          show (wipe (σ.set v o) ws).set w none = ((wipe σ ws).set w none).set v o
          rw [ih h2, List.set_comm _ _ h1]
      rw [key vs e, List.set_set]
theorem wipe_setV : ∀ {us : List Nat} {xs : List V} {σ : L2.St} {vs : List Nat}, (∀ u ∈ us, u ∈ vs) → wipe (setV σ us xs) vs = wipe σ vs
  | [], _, _, _, _ => rfl
  | _ :: _, [], _, _, _ => rfl
  | u :: us, x :: xs, σ, vs, h => by
    show wipe (setV (σ.set u (some x)) us xs) vs = _
    rw [wipe_setV fun w hw => h w (List.mem_cons_of_mem _ hw), wipe_set (h u List.mem_cons_self)]
theorem wipe_wipe (σ : L2.St) (vs : List Nat) : wipe (wipe σ vs) vs = wipe σ vs := by
  have key : ∀ (ws : List Nat), (∀ w ∈ ws, w ∈ vs) → wipe (wipe σ ws) vs = wipe σ vs := by
    intro ws
    induction ws with
    | nil => intro _; rfl
    | cons w ws ih =>
      intro h
      show wipe ((wipe σ ws).set w none) vs = _
      rw [wipe_set (h w List.mem_cons_self), ih fun u hu => h u (List.mem_cons_of_mem _ hu)]
  exact key vs fun w h => h
/-- the names' old values are not to be seen -/
def unsetD : Rho → List Nat → Rho
  | ρ, [] => ρ
  | ρ, v :: vs => (unsetD ρ vs).set v none
theorem RelE.wipe {K : PySem.W.Frag} {F : Hp} {ρ : Rho} {σ : L2.St} (h : RelE K F ρ σ) : ∀ vs : List Nat, RelE K F (unsetD ρ vs) (wipe σ vs)
  | [] => h
  | v :: vs => (RelE.wipe h vs).unset v none
theorem RelE.setD {K : PySem.W.Frag} {F : Hp} : ∀ {vs : List Nat} {ds : List D} {xs : List V} {ρ : Rho} {σ : L2.St}, RelE K F ρ σ → RelDs K F ds xs → RelE K F (setD ρ vs ds) (setV σ vs xs)
  | [], _, _, _, _, h, _ => by
    unfold DL.setD setV
    exact h
  | v :: vs, [], xs, _, _, h, r => by
    obtain rfl : xs = [] := by unfold RelDs at r; exact r
    exact h
  | v :: vs, d :: ds, xs, ρ, σ, h, r => by
    unfold RelDs at r
    obtain ⟨y, q, rfl, r1, r2⟩ := r
    exact RelE.setD (vs := vs) (h.set r1 v) r2
def lcT (vs : List Nat) (tt : TDT) (te : TD) (ρ : Rho) : List D → List D → Store → (List D → Store → Prop) → Prop
  | [], acc, S, Q => Q acc S
  | d :: ds, acc, S, Q => ∃ xs, d = .tup xs ∧ xs.length = vs.length ∧ tt (setD (unsetD ρ vs) vs xs) S fun b S1 => if b = true then te (setD (unsetD ρ vs) vs xs) S1 fun y S2 => acc.length < sizeLine ∧ lcT vs tt te ρ ds (acc ++ [y]) S2 Q else lcT vs tt te ρ ds acc S1 Q
def tdLcT (ti : TDI) (vs : List Nat) (tt : TDT) (te : TD) : TD := fun ρ S Q => ti ρ S fun ds S1 => lcT vs tt te ρ ds [] S1 fun ys S2 => Q (.lst ys) S2
theorem lcT_go {F0 : Ent} {ti : TDI} {vs : List Nat} {tt : TDT} {te : TD} {K : PySem.W.Frag} {σ : L2.St} {H : Hp} {Q : VK} (h : EL K F0 (tdLcT ti vs tt te) σ H Q) :
    tLc (IL K F0 ti) (gTup K vs.length (gNames vs)) (TL K F0 tt) (EL K F0 te) vs σ H Q := by
  obtain ⟨F, S, ρ, Q', a, h, p⟩ := h
  refine IL.go a h fun J H1 F1 S1 ds x1 a1 it q1 D hD => ?_
  refine ⟨fun i m H => m = ds.length - i ∧ i ≤ ds.length ∧ ∃ F S acc us, Ext F1 S1 (upd H1 D (.lst us)) F S H ∧ SR K F S H ∧ RelDs K F acc us ∧ lcT vs tt te ρ (ds.drop i) acc S fun ys S2 => Q' (.lst ys) S2,
    ⟨ds.length, by omega, Nat.zero_le _, F1, S1, [], [], Ext.refl _ _ _, a1.sr.laid hD, .nil, q1⟩, ?_⟩
  rintro i m H2 ⟨rfl, hi, F2, S2, acc, us, x2, sr2, racc, q2⟩
  have sm : Same F1 H2 := x2.same.trans sr2.fro
  obtain ⟨nF, nS, hH⟩ := x2.laid_none a1.sr hD
  by_cases hlt : i < ds.length
  · refine .inr ⟨it.go i H2 sm hlt, fun H => ∃ F S acc us, Ext F1 S1 (upd H1 D (.lst us)) F S H ∧ SR K F S H ∧ RelDs K F acc us ∧ lcT vs tt te ρ (ds.drop (i + 1)) acc S fun ys S2 => Q' (.lst ys) S2, fun H' n => ⟨ds.length - (i + 1), by omega, rfl, hlt, n⟩, fun x H' y => ?_⟩
    obtain ⟨F3, d, x3, sr3, hd, rd⟩ := it.yld i x H2 H' F2 S2 x2.same sr2 y hlt
    have e : ds.drop i = d :: ds.drop (i + 1) := by
      rw [List.drop_eq_getElem_cons hlt]
      congr 1
      rw [List.getElem?_eq_getElem hlt] at hd
      exact Option.some.inj hd
    rw [e] at q2
    obtain ⟨xs, e2, e3, q2⟩ := q2
    subst e2
    have x13 : Ext F1 S1 (upd H1 D (.lst us)) F3 S2 H' := x2.trans x3
    obtain ⟨b, ws, rfl, t1, t2⟩ := rd.tup_e
    refine ⟨b, ws, rfl, seqT sr3.fro t1, by rw [t2.length]; exact e3, gNames_go (by rw [t2.length]; exact e3) ?_⟩
    have a3 : At K F0 F3 S2 H' (setD (unsetD ρ vs) vs xs) (setV (wipe σ vs) vs ws) :=
      ⟨a1.f0.trans ((Ext.laid hD).trans x13), sr3, ((a1.env.mono x13.same).wipe vs).setD t2⟩
    refine ⟨?_, ?_⟩
    · rw [wipe_setV fun _ h => h, wipe_wipe]
    · refine TL.go a3 q2 fun b H4 F4 S4 x4 a4 q4 => ?_
      cases b with
      | false => exact iteF ⟨F4, S4, acc, us, x13.trans x4, a4.sr, RelDs.mono x4.same _ _ (RelDs.mono x3.same _ _ racc), q4⟩
      | true =>
        refine iteT (EL.go a4 q4 fun w H5 F5 S5 yd x5 a5 r5 ⟨hl, q5⟩ => ?_)
        have x15 := (x13.trans x4).trans x5
        obtain ⟨nF5, nS5, hH5⟩ := x15.laid_none a1.sr hD
        have racc5 := RelDs.mono x5.same _ _ (RelDs.mono x4.same _ _ (RelDs.mono x3.same _ _ racc))
        refine ⟨us, hH5, by rw [racc5.length]; exact hl, ?_⟩
        exact ⟨F5, S5, acc ++ [yd], us ++ [w], Ext.reset (K := K) x15, a5.sr.re nF5 nS5, racc5.append (.cons r5 .nil), q5⟩
  · refine .inl ⟨it.stop i H2 sm (by omega), ?_⟩
    rw [List.drop_eq_nil_of_le (by omega)] at q2
    obtain ⟨k1, k2⟩ := sr2.adoptF (ho := .lst us) nF nS
    have k3 := x2.adoptF (ho := .lst us) hD nF
    rw [upd_id hH] at k1 k3
    exact p.of (x1.trans k3) k1 (RelD.lst_i upd_same (RelDs.mono k2 _ _ racc)) q2
section
variable {X : Cx} {F0 : Ent} {elt iter : Expr} {ifs : List Expr} {scope : Scope} {tg : Expr} {own : List (Str × Nat)} {pos : Pos} {ti : TDI} {tt : TDT} {te : TD}
theorem de_lcT (vs : List Nat) (hvs : own.map (·.2) = vs) (hc : X.calm = true) (hN : X.N.Nodup) (hi : DI X F0 tg iter ti) (ok : BlkOk X.N X.env.scope scope own)
    (hg : ∀ (s : Shared) (H : Hp) (C : Addr) (cl : List (Str × Addr)) (fp : List Addr), PG (X.blk s H scope (compEnvC scope cl C X.env) fp) tg (gTup X.K vs.length (gNames vs)))
    (ht : ∀ (s : Shared) (H : Hp) (C : Addr) (cl : List (Str × Addr)) (fp : List Addr), DTs (X.blk s H scope (compEnvC scope cl C X.env) fp) F0 ifs tt)
    (he : ∀ (s : Shared) (H : Hp) (C : Addr) (cl : List (Str × Addr)) (fp : List Addr), DE (X.blk s H scope (compEnvC scope cl C X.env) fp) F0 elt te) (hs : ∀ x, foldedSetIterable iter X.env x = pure x := by intro _; rfl) :
    DE X F0 (.ListComp elt [⟨tg, iter, ifs, 0⟩] scope pos) (tdLcT ti vs tt te) := by
  subst hvs
  exact PE.weak (pe_lc (own := own) (tt := TL X.K F0 tt) (te := EL X.K F0 te) hc hN hi ok hg ht he hs) fun σ H Q h => lcT_go h
theorem Iters.zip {K : PySem.W.Frag} {F : Hp} {a b : Addr} {xs ys : List V} {ds es : List D} (h1 : ∀ H, Same F H → SqL K H a xs) (r1 : RelDs K F ds xs) (h2 : ∀ H, Same F H → SqL K H b ys) (r2 : RelDs K F es ys) :
    Iters K F (Itz K a b) (List.zipWith (fun x y => D.tup [x, y]) ds es) where
  go := fun i H sm hi => by
    rw [List.length_zipWith] at hi
    obtain ⟨v, k1, k2⟩ := r1.get (List.getElem?_eq_getElem (show i < ds.length by omega))
    obtain ⟨u, k3, k4⟩ := r2.get (List.getElem?_eq_getElem (show i < es.length by omega))
    exact ⟨xs, ys, v, u, h1 H sm, h2 H sm, k1, k3⟩
  stop := fun i H sm hi => by
    rw [List.length_zipWith] at hi
    exact ⟨xs, ys, h1 H sm, h2 H sm, by rw [r1.length, r2.length]; omega⟩
  yld := fun i x H H' F2 S sm sr y hi => by
    rw [List.length_zipWith] at hi
    obtain ⟨T, v, u, rfl, hT, rfl, q1, q2⟩ := y
    have k1 := q1 _ (h1 H (sm.trans sr.fro))
    have k2 := q2 _ (h2 H (sm.trans sr.fro))
    obtain ⟨d, e1, e2⟩ := r1.get' k1
    obtain ⟨e, e3, e4⟩ := r2.get' k2
    have nF := sr.fnone hT
    have nS := sr.snone hT
    have sm2 : Same F2 (upd F2 T (.tup [v, u])) := sr.same_frz hT
    refine ⟨upd F2 T (.tup [v, u]), .tup [d, e], sr.ext_frz hT, sr.frz hT, ?_, ?_⟩
    · rw [List.getElem?_zipWith, e1, e3]
    · exact .tup_i (.inl (.inl upd_same)) (.cons (RelD.mono sm2 _ _ (RelD.mono sm _ _ e2)) (.cons (RelD.mono sm2 _ _ (RelD.mono sm _ _ e4)) .nil))
def tdiZ (t : TDs) : TDI := fun ρ S Q => t ρ S fun ds S1 => match ds with
  | [.lst xs, .lst ys] => Q (List.zipWith (fun x y => D.tup [x, y]) xs ys) S1
  | _ => False
theorem di_zip {e e2 : Expr} {p tpos : Pos} {elts : List Expr} {kk : Nat} {tr : TDs} (hg : Gl X "zip") (hm : X.mg "zip" = none) (ha : DA X F0 [e, e2] tr)
    (hs : starEach [e, e2] X.env = (false, eval e X.env) :: starEach [e2] X.env := by rfl) (hpl : (backTo pos (starEach [e2] X.env)).any (·.1) = false := by rfl) :
    DI X F0 (.Tuple elts kk tpos) (.Call (.Name "zip" p) [e, e2] [] pos) (tdiZ tr) :=
  PI.weak (pi_zip hg hm ha hs hpl) fun σ H R ⟨F, S, ρ, Q', a, h, pp⟩ => AL.go a h fun vs H1 F1 S1 ds x1 a1 r1 q1 => by
    split at q1
    · obtain ⟨v, w, rfl, rv, rw'⟩ := rds2 r1
      obtain ⟨b, us, rfl, h1, h2⟩ := rv.lst_e
      obtain ⟨c, ws, rfl, h3, h4⟩ := rw'.lst_e
      exact ⟨b, c, us, ws, rfl, .of (a1.sr.fro _ _ h1), .of (a1.sr.fro _ _ h3), pp _ _ _ _ _ x1 a1.sr (.zip (fun H sm => .of (sm _ _ h1)) h2 (fun H sm => .of (sm _ _ h3)) h4) q1⟩
    · exact q1.elim
end
end DL
namespace DL
open PySem PySem.Spec L2
section
variable {X : Cx}
def gMax2 : DCall := fun S ds Q => match ds with
  | [.int i, .int j] => Q (.int (max i j)) S
  | _ => False
theorem oc_max2 (hc : X.calm = true) : CallR X (.builtin "max") (CL X.K gMax2) := CallR.weak (call_max2 hc) fun xs H Q ⟨F, S, ds, Q', sr, r, g, p⟩ => by
  unfold gMax2 at g
  split at g
  · rename_i i j
    obtain ⟨v, w, rfl, rv, rw'⟩ := rds2 r
    obtain rfl := rv.int_e
    obtain rfl := rw'.int_e
    refine ⟨i, j, rfl, ?_⟩
    have e : (if j > i then j else i) = max i j := by omega
    rw [e]
    exact p.of (Ext.refl _ _ _) sr (.int_i _) g
  · exact g.elim
theorem gIn_int {f : Bool → Bool} {S : Store} {x : Int} {ts : List Int} {Q : D → Store → Prop} : gIn f S (.int x) (.lst (ts.map D.int)) Q = Q (.bl (f (decide (x ∈ ts)))) S := by
  have h1 : ∀ l : List Int, (l.map D.int).all flatD = true := fun l => by
    induction l with
    | nil => rfl
    | cons y l ih => rw [List.map_cons, List.all_cons, ih]; rfl
  have h2 : ∀ l : List Int, ((l.map D.int).any fun y => eqF y (.int x)) = decide (x ∈ l) := fun l => by
    induction l with
    | nil => rfl
    | cons y l ih =>
      rw [List.map_cons, List.any_cons, ih]
      show (decide (y = x) || _) = _
      by_cases h : y = x
      · simp [h]
      · have h' : ¬ x = y := fun z => h z.symm
        simp [h, h']
  show (flatD (.int x) = true ∧ _ ∧ _) = _
  rw [h1, h2]; simp [flatD]
end
end DL
namespace DL
open PySem PySem.Spec L2
section
variable {X : Cx}
def gAddT : DOp := fun S x y Q => match vw S x, vw S y with
  | .int i, .int j => Q (.int (i + j)) S
  | .str a, .str b => a.length + b.length ≤ sizeLine ∧ Q (.str (a ++ b)) S
  | .lst xs, .lst ys => xs.length + ys.length ≤ sizeLine ∧ Q (.lst (xs ++ ys)) S
  | .tup xs, .tup ys => xs.length + ys.length ≤ sizeLine ∧ Q (.tup (xs ++ ys)) S
  | _, _ => False
theorem od_addT : OpR X (binaryOp .Add) (OL X.K gAddT) := by
  refine OpR.weak (OpR.or od_add op_catA) fun x y H Q ⟨F, S, dx, dy, Q', sr, rx, ry, g, p⟩ => ?_
  unfold gAddT at g
  split at g
  · rename_i i j e1 e2
    refine .inl ⟨F, S, dx, dy, Q', sr, rx, ry, ?_, p⟩
    unfold gAdd
    rw [e1, e2]
    exact g
  · rename_i i j e1 e2
    refine .inl ⟨F, S, dx, dy, Q', sr, rx, ry, ?_, p⟩
    unfold gAdd
    rw [e1, e2]
    exact g
  · rename_i i j e1 e2
    refine .inl ⟨F, S, dx, dy, Q', sr, rx, ry, ?_, p⟩
    unfold gAdd
    rw [e1, e2]
    exact g
  · rename_i xs ys e1 e2
    obtain ⟨a, vs, rfl, h1, k1⟩ := vw_tup sr rx e1
    obtain ⟨b, us, rfl, h2, k2⟩ := vw_tup sr ry e2
    refine .inr ⟨a, b, vs, us, rfl, rfl, h1, h2, by rw [k1.length, k2.length]; exact g.1, fun z => ?_, fun z1 z => ?_, fun z1 z2 q hq => ?_⟩
    · subst z
      have e : xs = [] := List.length_eq_zero_iff.mp (by rw [← k1.length]; rfl)
      subst e
      have e3 : vw S dy = .tup ys := e2
      refine p.of (Ext.refl _ _ _) sr ?_ g.2
      rcases vw_case S dy with q | ⟨c, es, rfl, q1, q2⟩
      · rw [q] at e3
        rw [e3] at ry
        exact ry
      · rw [q2] at e3; cases e3
    · subst z
      have e : ys = [] := List.length_eq_zero_iff.mp (by rw [← k2.length]; rfl)
      subst e
      have g2 := g.2
      rw [List.append_nil] at g2
      refine p.of (Ext.refl _ _ _) sr ?_ g2
      rcases vw_case S dx with q | ⟨c, es, rfl, q1, q2⟩
      · rw [q] at e1
        rw [e1] at rx
        exact rx
      · rw [q2] at e1; cases e1
    · exact p.of (sr.ext_frz hq) (sr.frz hq) (.tup_i (.inl (.inl upd_same)) (RelDs.mono (sr.same_frz hq) _ _ (k1.append k2))) g.2
  · exact g.elim
def gInD (f : Bool → Bool) : DOp := fun S x y Q => match vw S y with
  | .lst ds => (vw S x).pure = true ∧ D.pures ds = true ∧ SeqAt.shaped (vw S x).data = true ∧ SeqAt.shaped (D.lst ds).data = true ∧ Q (.bl (f ((D.datas ds).any fun z => PyData.eqv z (vw S x).data))) S
  | _ => False
theorem inD_case {F : Hp} {S : Store} {H : Hp} {dx dy : D} {x y : V} {Q : VK} {Q' : D → Store → Prop} {f : Bool → Bool} (sr : SR X.K F S H) (rx : RelD X.K F dx x) (ry : RelD X.K F dy y) (g : gInD f S dx dy Q') (p : Post X.K F S H Q' Q) :
    ∃ d ds, Dp X.K H x d ∧ Dp X.K H y (.list ds) ∧ SeqAt.shaped d = true ∧ SeqAt.shaped (.list ds) = true ∧ Q (.bl (f (ds.any fun z => PyData.eqv z d))) H := by
  unfold gInD at g
  split at g
  · rename_i ds e
    obtain ⟨h1, h2, h3, h4, g⟩ := g
    have hp : (vw S dy).pure = true := by rw [e]; exact h2
    have hd : Dp X.K H y (vw S dy).data := vw_dp sr ry hp
    rw [e] at hd
    exact ⟨_, _, vw_dp sr rx h1, hd, h3, h4, p.of (Ext.refl _ _ _) sr (.bl_i _) g⟩
  · exact g.elim
theorem od_inD (hu : X.A.units + 65 < cLine) : OpR X (compareOp .In) (OL X.K (gInD id)) :=
  OpR.weak (op_inD hu) fun x y H Q ⟨F, S, dx, dy, Q', sr, rx, ry, g, p⟩ => inD_case sr rx ry g p
theorem od_ninD (hu : X.A.units + 65 < cLine) : OpR X (compareOp .NotIn) (OL X.K (gInD not)) :=
  OpR.weak (op_notInD hu) fun x y H Q ⟨F, S, dx, dy, Q', sr, rx, ry, g, p⟩ => inD_case sr rx ry g p
def gSortI : DCall := fun S ds Q => match ds with
  | [x] => match vw S x with
    | .lst ds => ∃ ns, intsD ds = some ns ∧ ∀ ns' : List Int, ns'.Perm ns → ns'.Pairwise (· ≤ ·) → Q (.lst (ns'.map D.int)) S
    | _ => False
  | _ => False
theorem oc_sortI : CallR X (.builtin "sorted") (CL X.K gSortI) := CallR.weak cr_sortedI fun xs H Q ⟨F, S, ds, Q', sr, r, g, p⟩ => by
  unfold gSortI at g
  split at g
  · obtain ⟨v, rfl, rv⟩ := rds1 r
    split at g
    · rename_i t e
      obtain ⟨ns, h0, g⟩ := g
      obtain ⟨a, vs, rfl, h1, h2⟩ := vw_lst sr rv e
      rw [intsD_map h0] at h2
      rw [ints_rel h2] at h1
      exact ⟨a, ns, rfl, .of h1, fun ns' q h3 h4 hq => p.of (sr.ext_frz hq) (sr.frz hq) (RelD.lst_i upd_same (RelDs.ints ns')) (g ns' h3 h4)⟩
    · exact g.elim
  · exact g.elim
def gMin2 : DCall := fun S ds Q => match ds with
  | [.int i, .int j] => Q (.int (min i j)) S
  | _ => False
theorem oc_min2 (hc : X.calm = true) : CallR X (.builtin "min") (CL X.K gMin2) := CallR.weak (call_min2 hc) fun xs H Q ⟨F, S, ds, Q', sr, r, g, p⟩ => by
  unfold gMin2 at g
  split at g
  · rename_i i j
    obtain ⟨v, w, rfl, rv, rw'⟩ := rds2 r
    obtain rfl := rv.int_e
    obtain rfl := rw'.int_e
    refine ⟨i, j, rfl, ?_⟩
    have e : (if j < i then j else i) = min i j := by omega
    rw [e]
    exact p.of (Ext.refl _ _ _) sr (.int_i _) g
  · exact g.elim
def gTuple : DCall := fun S ds Q => match ds with
  | [x] => match vw S x with
    | .lst ds => Q (.tup ds) S
    | .tup ds => Q (.tup ds) S
    | _ => False
  | _ => False
theorem oc_tuple : CallR X (.type "tuple") (CL X.K gTuple) := CallR.weak call_tuple_of fun xs H Q ⟨F, S, ds, Q', sr, r, g, p⟩ => by
  unfold gTuple at g
  split at g
  · rename_i x
    obtain ⟨v, rfl, rv⟩ := rds1 r
    split at g
    · rename_i t e
      obtain ⟨a, vs, rfl, h1, h2⟩ := vw_lst sr rv e
      exact ⟨a, vs, rfl, .inl ⟨.of h1, fun l hl => p.of (sr.ext_frz hl) (sr.frz hl) (.tup_i (.inl (.inl upd_same)) (RelDs.mono (sr.same_frz hl) _ _ h2)) g⟩⟩
    · rename_i t e
      obtain ⟨a, vs, rfl, h1, h2⟩ := vw_tup sr rv e
      refine ⟨a, vs, rfl, .inr ⟨h1, p.of (Ext.refl _ _ _) sr ?_ g⟩⟩
      rcases vw_case S x with q | ⟨c, es, rfl, q1, q2⟩
      · rw [q] at e
        rw [e] at rv
        exact rv
      · rw [q2] at e; cases e
    · exact g.elim
  · exact g.elim
/-- dict(xs) of a list of pairs -/
def pairsD : List D → Option (List (DK × D))
  | [] => some []
  | .tup [.int i, d] :: r => (pairsD r).map ((.inl i, d) :: ·)
  | .tup [.str t, d] :: r => (pairsD r).map ((.inr t, d) :: ·)
  | _ => none
def gDictP : DCall := fun S ds Q => match ds with
  | [x] => match vw S x with
    | .lst ds => ∃ kvs, pairsD ds = some kvs ∧ ∀ p, S p = none → Q (.ref p) (sup S p (.dic (mergeD [] kvs)))
    | _ => False
  | _ => False
theorem pairsD_rel {K : PySem.W.Frag} {F H : Hp} (sm : Same F H) : ∀ {ds : List D} {vs : List V} {kvs : List (DK × D)}, pairsD ds = some kvs → RelDs K F ds vs →
    ∃ (ps : List Addr) (us : List (Key × V)), vs = ps.map V.ref ∧ RelF K F (kmap kvs) us ∧ Paired (fun p kv => SqT K H p [kV kv.1, kv.2]) ps us
  | [], vs, kvs, h, r => by
    cases h
    exact ⟨[], [], r.nil_inv, rfl, .nil⟩
  | d :: r, vs, kvs, h, q => by
    obtain ⟨v, ws, rfl, q1, q2⟩ := q.cons_inv
    unfold pairsD at h
    split at h <;> first
      | (rename_i heq; cases heq; done)
      | (cases h; done)
      | (rename_i heq
         injection heq with e1 e2
         subst e1; subst e2
         cases z : pairsD _ with
         | none => rw [z] at h; cases h
         | some ms =>
           rw [z] at h; cases h
           obtain ⟨ps, us, rfl, k1, k2⟩ := pairsD_rel sm z q2
           obtain ⟨a, xs, rfl, t1, t2⟩ := q1.tup_e
           obtain ⟨x, y, rfl, x1, y1⟩ := rds2 t2
           first
             | (obtain rfl := x1.int_e; exact ⟨a :: ps, (.inl _, y) :: us, rfl, ⟨y, us, rfl, y1, k1⟩, .cons (seqT sm t1) k2⟩)
             | (obtain rfl := x1.str_e; exact ⟨a :: ps, (.inr _, y) :: us, rfl, ⟨y, us, rfl, y1, k1⟩, .cons (seqT sm t1) k2⟩))
theorem oc_dictP (hc : X.calm = true) : CallR X (.type "dict") (CL X.K gDictP) := CallR.weak (call_dictP hc) fun xs H Q ⟨F, S, ds, Q', sr, r, g, p⟩ => by
  unfold gDictP at g
  split at g
  · rename_i x
    obtain ⟨v, rfl, rv⟩ := rds1 r
    split at g
    · rename_i t e
      obtain ⟨kvs, h0, g⟩ := g
      obtain ⟨a, vs, rfl, h1, h2⟩ := vw_lst sr rv e
      obtain ⟨ps, us, rfl, k1, k2⟩ := pairsD_rel sr.fro h0 h2
      refine ⟨a, ps, us, rfl, .of h1, k2, fun q hq => ?_⟩
      exact p.of (sr.ext_box (o := .dic (mergeD [] kvs)) hq) (sr.box (o := .dic (mergeD [] kvs)) hq ⟨_, rfl, mergeD_rel k1 rfl⟩) (.ref_i _) (g q (sr.snone hq))
    · exact g.elim
  · exact g.elim
end
section
variable {X : Cx} {F0 : Ent} {o e : Expr} {to te : TD} {pos apos cpos : Pos}
/-- xs.index(e) -/
def tdIdx (to te : TD) : TD := fun ρ S Q => to ρ S fun x S1 => (∃ ds, vw S1 x = .lst ds) ∧ te ρ S1 fun y S2 => ∃ ds j z, vw S2 x = .lst ds ∧ D.pures ds = true ∧ (vw S2 y).pure = true ∧ SeqAt.shaped (D.lst ds).data = true ∧ SeqAt.shaped (vw S2 y).data = true ∧
  (D.datas ds)[j]? = some z ∧ PyData.eqv z (vw S2 y).data = true ∧ (∀ (m : Nat) (z' : PyData), m < j → (D.datas ds)[m]? = some z' → PyData.eqv z' (vw S2 y).data = false) ∧ Q (.int (j : Nat)) S2
theorem de_index (hu : X.A.units + 65 < cLine) (ho : DE X F0 o to) (he : DE X F0 e te)
    (hbase : attributeBase o "index" X.env (eval o X.env) = eval o X.env := by rfl)
    (hfew : ((backTo cpos (starEach [e] X.env)).all (fun x => !x.1) && (backToKw cpos (keywordEach [] X.env)).all (fun x => x.1.isSome)
      && decide ([e].length + ([] : List Keyword).length + (if ([] : List Keyword).isEmpty then 0 else 1) < 30)) = true := by rfl)
    (hline : (apos.endLine == cpos.line) = true := by rfl) (hs : starEach [e] X.env = (false, eval e X.env) :: starEach [] X.env := by rfl) :
    DE X F0 (.Call (.Attribute o "index" apos) [e] [] cpos) (tdIdx to te) :=
  PE.weak (pe_bm PySem.F.plainAttrs_list PySem.F.slot_list_index PySem.F.type_list_index (mt_indexD hu) ho (da_cons he da_nil hs) hbase hfew hline hs rfl) fun σ H Q ⟨F, S, ρ, Q', at0, h, p⟩ => by
    refine EL.go at0 h fun v H1 F1 S1 d x1 a1 r1 ⟨⟨ds, e1⟩, q1⟩ => ?_
    obtain ⟨a, vs, rfl, h1, h2⟩ := vw_lst a1.sr r1 e1
    refine ⟨.inl ⟨rfl, vs, .of h1⟩, ?_⟩
    refine AL.go (Q1 := fun ys S2 => ∃ y, ys = [y] ∧ ∃ ds j z, vw S2 d = .lst ds ∧ D.pures ds = true ∧ (vw S2 y).pure = true ∧ SeqAt.shaped (D.lst ds).data = true ∧ SeqAt.shaped (vw S2 y).data = true ∧
      (D.datas ds)[j]? = some z ∧ PyData.eqv z (vw S2 y).data = true ∧ (∀ (m : Nat) (z' : PyData), m < j → (D.datas ds)[m]? = some z' → PyData.eqv z' (vw S2 y).data = false) ∧ Q' (.int (j : Nat)) S2) a1 ?_ fun ws H2 F2 S2 ys x2 a2 r2 q2 => ?_
    · show te ρ S1 fun y S2 => _
      have : (fun (y : D) (S2 : Store) => ∃ ds j z, vw S2 d = .lst ds ∧ D.pures ds = true ∧ (vw S2 y).pure = true ∧ SeqAt.shaped (D.lst ds).data = true ∧ SeqAt.shaped (vw S2 y).data = true ∧
          (D.datas ds)[j]? = some z ∧ PyData.eqv z (vw S2 y).data = true ∧ (∀ (m : Nat) (z' : PyData), m < j → (D.datas ds)[m]? = some z' → PyData.eqv z' (vw S2 y).data = false) ∧ Q' (.int (j : Nat)) S2) =
        fun y S2 => tdNil ρ S2 fun xs S3 => ∃ z, y :: xs = [z] ∧ ∃ ds j z', vw S3 d = .lst ds ∧ D.pures ds = true ∧ (vw S3 z).pure = true ∧ SeqAt.shaped (D.lst ds).data = true ∧ SeqAt.shaped (vw S3 z).data = true ∧
          (D.datas ds)[j]? = some z' ∧ PyData.eqv z' (vw S3 z).data = true ∧ (∀ (m : Nat) (z'' : PyData), m < j → (D.datas ds)[m]? = some z'' → PyData.eqv z'' (vw S3 z).data = false) ∧ Q' (.int (j : Nat)) S3 := by
        funext y S2
        refine propext ⟨fun h => ⟨y, rfl, h⟩, fun ⟨z, hz, h⟩ => ?_⟩
        cases hz
        exact h
      rw [← this]
      exact q1
    · obtain ⟨y, rfl, ds2, j, z, e3, e4, e5, e6, e7, e8, e9, e10, q3⟩ := q2
      obtain ⟨w, rfl, rw'⟩ := rds1 r2
      have r3 := RelD.mono x2.same _ _ r1
      have hp : (vw S2 d).pure = true := by rw [e3]; exact e4
      have hd := vw_dp a2.sr r3 hp
      rw [e3] at hd
      exact ⟨a, w, _, _, j, z, rfl, rfl, hd, vw_dp a2.sr rw' e5, e6, e7, e8, e9, e10, p.of (x1.trans x2) a2.sr (.int_i _) q3⟩
/-- a, b = a list -/
def gdUnl (n : Nat) (gs : TDGs) : TDG := fun d ρ S Q => ∃ ds, vw S d = .lst ds ∧ ds.length = n ∧ gs ds ρ S Q
theorem dg_unl {es : List Expr} {k : Nat} {gs : TDGs} {n : Nat} (hc : X.calm = true) (h : DGs X F0 es gs) (hn : (assignEach es X.env).length = n := by rfl) (hst : (assignEach es X.env).findIdx? (·.1) = none := by rfl) : DG X F0 (.Tuple es k pos) (gdUnl n gs) :=
  PG.weak (pg_unl hc h hn hst) fun v σ H Q ⟨F, S, ρ, d, Q', a, r, ⟨ds, g1, g2, g3⟩, p⟩ => by
    obtain ⟨b, vs, rfl, k1, k2⟩ := vw_lst a.sr r g1
    exact ⟨b, vs, rfl, .of k1, by rw [k2.length]; exact g2, F, S, ρ, ds, Q', a, k2, g3, p⟩
/-- range(i, j, -1) -/
def rngN (i : Int) (n : Nat) : List D := (List.range n).map fun (k : Nat) => D.int (i - (k : Int))
theorem Iters.down {K : PySem.W.Frag} {F : Hp} (i : Int) (n : Nat) : Iters K F (Itc i (-1) n) (rngN i n) where
  go := fun k H _ hi => by
    have h : k < n := by simpa [rngN] using hi
    exact h
  stop := fun k H _ hi => by
    have h : n ≤ k := by simpa [rngN] using hi
    exact h
  yld := fun k x H H' F2 S sm sr y hi => by
    obtain ⟨rfl, rfl⟩ := y
    have hi' : k < n := by simpa [rngN] using hi
    have e : i + (-1) * (k : Int) = i - (k : Int) := by omega
    refine ⟨F2, .int (i - (k : Int)), Ext.refl _ _ _, sr, by simp [rngN, hi'], ?_⟩
    first
      | (rw [e]; exact .int_i _)
      | (rw [show i + (k : Int) * -1 = i - (k : Int) by omega]; exact .int_i _)
def tdiD (t : TDs) : TDI := fun ρ S Q => t ρ S fun ds S1 => match ds with
  | [.int i, .int j, .int (-1)] => (-(2 ^ 62) ≤ i ∧ i < 2 ^ 62 ∧ -(2 ^ 62) ≤ j ∧ j < 2 ^ 62) ∧ Q (rngN i (i - j).toNat) S1
  | _ => False
theorem di_down {tg a b c : Expr} {p : Pos} {tr : TDs} (hg : Gl X "range") (hm : X.mg "range" = none) (ha : DA X F0 [a, b, c] tr)
    (hs : starEach [a, b, c] X.env = (false, eval a X.env) :: starEach [b, c] X.env := by rfl) (hpl : (backTo pos (starEach [b, c] X.env)).any (·.1) = false := by rfl) :
    DI X F0 tg (.Call (.Name "range" p) [a, b, c] [] pos) (tdiD tr) :=
  PI.weak (pi_range3 hg hm ha hs hpl) fun σ H R ⟨F, S, ρ, Q', at0, h, pp⟩ => AL.go at0 h fun vs H1 F1 S1 ds x1 a1 r1 q1 => by
    split at q1
    · rename_i i j
      obtain ⟨v, ws, rfl, rv, r2⟩ := r1.cons_inv
      obtain ⟨u, w, rfl, ru, rw'⟩ := rds2 r2
      obtain rfl := rv.int_e
      obtain rfl := ru.int_e
      obtain rfl := rw'.int_e
      exact ⟨i, j, -1, _, rfl, .neg q1.1.1 q1.1.2.1 q1.1.2.2.1 q1.1.2.2.2, pp _ _ _ _ _ x1 a1.sr (.down _ _) q1.2⟩
    · exact q1.elim
end
end DL
namespace DL
open PySem PySem.Spec L2
theorem hu65 {d : Nat} {A : Around} (q : Rm d A) : A.units + 65 < cLine := by have z := q.uni; omega
theorem bb_min : bootBuiltins "min" = some (.builtin "min") := by decide +kernel
theorem bb_sorted : bootBuiltins "sorted" = some (.builtin "sorted") := by decide +kernel
theorem bb_dict : bootBuiltins "dict" = some (.type "dict") := by decide +kernel
theorem ln_4 {α β : Type} {a b c d : α} {x y z u : β} : ([a, b, c, d].length = [x, y, z, u].length) = True := eq_true rfl
theorem ln_5 {α β : Type} {a b c d e : α} {x y z u v : β} : ([a, b, c, d, e].length = [x, y, z, u, v].length) = True := eq_true rfl
theorem ln_6 {α β : Type} {a b c d e f : α} {x y z u v w : β} : ([a, b, c, d, e, f].length = [x, y, z, u, v, w].length) = True := eq_true rfl
theorem sort2 {a b : Int} {ns : List Int} (h : ns.Perm [a, b]) (g : ns.Pairwise (· ≤ ·)) : ns = [min a b, max a b] := by
  have hl : ns.length = 2 := h.length_eq
  match ns, hl with
  | [x, y], _ =>
    have h1 : x ≤ y := by
      cases g with
      | cons q _ => exact q y List.mem_cons_self
    have hx : x ∈ [a, b] := h.mem_iff.mp List.mem_cons_self
    have hy : y ∈ [a, b] := h.mem_iff.mp (List.mem_cons_of_mem _ List.mem_cons_self)
    have ha : a ∈ [x, y] := h.mem_iff.mpr List.mem_cons_self
    have hb : b ∈ [x, y] := h.mem_iff.mpr (List.mem_cons_of_mem _ List.mem_cons_self)
    simp only [List.mem_cons, List.not_mem_nil, or_false] at hx hy ha hb
    have e1 : x = min a b := by omega
    have e2 : y = max a b := by omega
    rw [e1, e2]
theorem fmod_nat (n m : Nat) : ((n : Nat) : Int).fmod ((m : Nat) : Int) = ((n % m : Nat) : Int) := by
  rw [Int.fmod_eq_emod_of_nonneg _ (by omega)]
  exact (Int.natCast_emod n m).symm
theorem fdiv_nat (n m : Nat) : ((n : Nat) : Int).fdiv ((m : Nat) : Int) = ((n / m : Nat) : Int) := by
  rw [Int.fdiv_eq_ediv_of_nonneg _ (by omega)]
  exact (Int.natCast_ediv n m).symm
theorem fmod_2 (n : Nat) : ((n : Nat) : Int).fmod 2 = ((n % 2 : Nat) : Int) := fmod_nat n 2
theorem fdiv_2 (n : Nat) : ((n : Nat) : Int).fdiv 2 = ((n / 2 : Nat) : Int) := fdiv_nat n 2
def prD (p : Nat × Nat) : D := .tup [.int (p.1 : Nat), .int (p.2 : Nat)]
theorem pr_pures : ∀ ps : List (Nat × Nat), D.pures (ps.map prD) = true
  | [] => rfl
  | p :: ps => by
    show (D.pure (prD p) && D.pures (ps.map prD)) = true
    rw [pr_pures ps]
    rfl
theorem pr_lay : ∀ ps : List (Nat × Nat), PyData.canLayAll0 (D.datas (ps.map prD)) = true ∧ PyData.depthAll (D.datas (ps.map prD)) ≤ 1
  | [] => ⟨rfl, Nat.zero_le _⟩
  | p :: ps => by
    obtain ⟨h1, h2⟩ := pr_lay ps
    refine ⟨?_, ?_⟩
    · show (true && PyData.canLayAll0 (D.datas (ps.map prD))) = true
      rw [h1]; rfl
    · show max (max 0 (max 0 0) + 1) (PyData.depthAll (D.datas (ps.map prD))) ≤ 1
      omega
theorem pr_shaped (ps : List (Nat × Nat)) : SeqAt.shaped (D.lst (ps.map prD)).data = true := by
  obtain ⟨h1, h2⟩ := pr_lay ps
  show (PyData.canLayAll0 (D.datas (ps.map prD)) && decide (PyData.depthAll (D.datas (ps.map prD)) + 1 ≤ 64)) = true
  rw [h1, decide_eq_true (by omega)]
  rfl
theorem pr_shaped1 (p : Nat × Nat) : SeqAt.shaped (prD p).data = true := by
  show (true && decide (max 0 (max 0 0) + 1 ≤ 64)) = true
  rfl
theorem pr_eqv (p q : Nat × Nat) : PyData.eqv (prD p).data (prD q).data = decide (p = q) := by
  show ((((p.1 : Int) == (q.1 : Int)) && (((p.2 : Int) == (q.2 : Int)) && true))) = _
  obtain ⟨a, b⟩ := p
  obtain ⟨c, d⟩ := q
  by_cases h : (a, b) = (c, d)
  · cases h
    simp
  · rw [decide_eq_false h]
    by_cases h1 : a = c
    · have h2 : ¬ b = d := fun z => h (by rw [h1, z])
      have q : ((b : Int) == (d : Int)) = false := beq_eq_false_iff_ne.mpr (by omega)
      show (((a : Int) == (c : Int)) && (((b : Int) == (d : Int)) && true)) = false
      rw [q, Bool.false_and, Bool.and_false]
    · have q : ((a : Int) == (c : Int)) = false := beq_eq_false_iff_ne.mpr (by omega)
      show (((a : Int) == (c : Int)) && _) = false
      rw [q, Bool.false_and]
theorem pr_any (p : Nat × Nat) : ∀ ps : List (Nat × Nat), ((D.datas (ps.map prD)).any fun z => PyData.eqv z (prD p).data) = decide (p ∈ ps)
  | [] => rfl
  | q :: ps => by
    show (PyData.eqv (prD q).data (prD p).data || (D.datas (ps.map prD)).any fun z => PyData.eqv z (prD p).data) = _
    rw [pr_any p ps, pr_eqv]
    by_cases h : q = p
    · simp [h]
    · have h' : ¬ p = q := fun z => h z.symm
      simp [h, h']
theorem pr_datas (ps : List (Nat × Nat)) (j : Nat) : (D.datas (ps.map prD))[j]? = (ps[j]?).map fun p => (prD p).data := by
  induction ps generalizing j with
  | nil => rfl
  | cons p ps ih =>
    cases j with
    | zero => rfl
    | succ j => exact ih j
/-- x in a stored list of pairs -/
theorem gInD_pr {f : Bool → Bool} {S : Store} {a : Addr} {ps : List (Nat × Nat)} {p : Nat × Nat} {Q : D → Store → Prop} (h : S a = some (.lst (ps.map prD))) (q : Q (.bl (f (decide (p ∈ ps)))) S) : gInD f S (prD p) (.ref a) Q := by
  unfold gInD
  rw [vw_ref h]
  show (prD p).pure = true ∧ _
  refine ⟨rfl, pr_pures ps, pr_shaped1 p, pr_shaped ps, ?_⟩
  show Q (.bl (f ((D.datas (ps.map prD)).any fun z => PyData.eqv z (prD p).data))) S
  rw [pr_any]
  exact q
theorem idx_pr {S : Store} {a : Addr} {ps : List (Nat × Nat)} {p : Nat × Nat} (h : S a = some (.lst (ps.map prD))) (hp : p ∈ ps) {Q : Nat → Prop} (q : ∀ j, ps[j]? = some p → Q j) :
    ∃ ds j z, vw S (.ref a) = .lst ds ∧ D.pures ds = true ∧ (vw S (prD p)).pure = true ∧ SeqAt.shaped (D.lst ds).data = true ∧ SeqAt.shaped (vw S (prD p)).data = true ∧
      (D.datas ds)[j]? = some z ∧ PyData.eqv z (vw S (prD p)).data = true ∧ (∀ (m : Nat) (z' : PyData), m < j → (D.datas ds)[m]? = some z' → PyData.eqv z' (vw S (prD p)).data = false) ∧ Q j := by
  have ex : ∃ j, ps[j]? = some p ∧ ∀ m : Nat, m < j → ps[m]? ≠ some p := by
    clear q h
    induction ps with
    | nil => cases hp
    | cons x ps ih =>
      by_cases hx : x = p
      · exact ⟨0, by rw [hx]; rfl, fun m hm => absurd hm (by omega)⟩
      · obtain ⟨j, h1, h2⟩ := ih ((List.mem_cons.mp hp).resolve_left fun z => hx z.symm)
        refine ⟨j + 1, h1, fun m hm => ?_⟩
        cases m with
        | zero => exact fun z => hx (Option.some.inj z)
        | succ m => exact h2 m (by omega)
  obtain ⟨j, h1, h2⟩ := ex
  refine ⟨ps.map prD, j, (prD p).data, vw_ref h, pr_pures ps, rfl, pr_shaped ps, pr_shaped1 p, ?_, ?_, fun m z' hm hz => ?_, q j h1⟩
  · rw [pr_datas, h1]; rfl
  · show PyData.eqv (prD p).data (prD p).data = true
    rw [pr_eqv, decide_eq_true rfl]
  · rw [pr_datas] at hz
    cases hy : ps[m]? with
    | none => rw [hy] at hz; cases hz
    | some y =>
      rw [hy] at hz
      cases hz
      show PyData.eqv (prD y).data (prD p).data = false
      rw [pr_eqv]
      exact decide_eq_false fun z => h2 m hm (by rw [hy, z])
end DL
namespace DL
open PySem PySem.Spec L2
theorem valD_rep_ne (kvs : List (DK × D)) (k j : DK) (v : D) (hj : j ≠ k) : valD (repD kvs k v) j = valD kvs j := by
  induction kvs with
  | nil => rfl
  | cons p r ih =>
    obtain ⟨k', d⟩ := p
    show (if k' = j then some (if k' = k then v else d) else valD (repD r k v) j) = if k' = j then some d else valD r j
    rw [ih]
    by_cases e : k' = j
    · rw [if_pos e, if_pos e, if_neg (fun z => hj (by rw [← e, z]))]
    · rw [if_neg e, if_neg e]
theorem valD_rep_eq (kvs : List (DK × D)) (k : DK) (v : D) (h : hasD kvs k = true) : valD (repD kvs k v) k = some v := by
  induction kvs with
  | nil => cases h
  | cons p r ih =>
    obtain ⟨k', d⟩ := p
    unfold hasD at h
    show (if k' = k then some (if k' = k then v else d) else valD (repD r k v) k) = some v
    by_cases e : k' = k
    · rw [if_pos e, if_pos e]
    · rw [if_neg e] at h ⊢
      exact ih h
theorem valD_rep (kvs : List (DK × D)) (k j : DK) (v : D) (h : hasD kvs k = true) : valD (repD kvs k v) j = if j = k then some v else valD kvs j := by
  by_cases e : j = k
  · subst e
    rw [if_pos rfl]
    exact valD_rep_eq kvs j v h
  · rw [if_neg e]
    exact valD_rep_ne kvs k j v e
theorem valD_app (kvs : List (DK × D)) (k j : DK) (v : D) (h : hasD kvs k = false) : valD (kvs ++ [(k, v)]) j = if j = k then some v else valD kvs j := by
  induction kvs with
  | nil =>
    show (if k = j then _ else _) = _
    by_cases e : j = k
    · rw [if_pos e.symm, if_pos e]
    · rw [if_neg (fun z => e z.symm), if_neg e]
  | cons p r ih =>
    obtain ⟨k', d⟩ := p
    unfold hasD at h
    by_cases e : k' = k
    · rw [if_pos e] at h; cases h
    · rw [if_neg e] at h
      show (if k' = j then _ else valD (r ++ [(k, v)]) j) = if j = k then _ else (if k' = j then _ else valD r j)
      rw [ih h]
      by_cases e2 : j = k
      · rw [if_neg (fun z => e (by rw [z, e2])), if_pos e2, if_pos e2]
      · rw [if_neg e2, if_neg e2]
theorem valD_put (kvs : List (DK × D)) (k j : DK) (v : D) : valD (putD kvs k v) j = if j = k then some v else valD kvs j := by
  unfold putD
  split
  · rename_i h; exact valD_rep kvs k j v h
  · rename_i h
    exact valD_app kvs k j v (by cases z : hasD kvs k with
      | true => exact absurd z h
      | false => rfl)
theorem rep_len (kvs : List (DK × D)) (k : DK) (v : D) : (repD kvs k v).length = kvs.length := by
  induction kvs with
  | nil => rfl
  | cons p r ih =>
    obtain ⟨k', d⟩ := p
    unfold repD
    rw [List.length_cons, ih, List.length_cons]
theorem put_len (kvs : List (DK × D)) (k : DK) (v : D) : (putD kvs k v).length ≤ kvs.length + 1 := by
  unfold putD
  split
  · rw [rep_len]; omega
  · rw [List.length_append]; exact Nat.le_refl _
end DL
namespace DL
open PySem PySem.Spec L2
/-- a comprehension whose items leave the store alone -/
theorem lcR_f {v : Nat} {te : TD} {ρ : Rho} {Q : List D → Store → Prop} (f : D → D) : ∀ (ds acc : List D) (S : Store), (∀ d ∈ ds, ∀ Q' : D → Store → Prop, Q' (f d) S → te (ρ.set v (some d)) S Q') → acc.length + ds.length ≤ 100000 →
    Q (acc ++ ds.map f) S → lcR v tdYes te ρ ds acc S Q
  | [], acc, S, _, _, q => by
    rw [List.map_nil, List.append_nil] at q
    exact q
  | d :: ds, acc, S, ht, hl, q => by
    rw [List.length_cons] at hl
    show te _ S _
    refine ht d List.mem_cons_self _ ⟨Nat.lt_of_lt_of_le (show acc.length < 100001 by omega) (sz5 (by omega)), ?_⟩
    refine lcR_f f ds (acc ++ [f d]) S (fun k hk => ht k (List.mem_cons_of_mem _ hk)) (by rw [List.length_append]; show acc.length + 1 + ds.length ≤ _; omega) ?_
    rw [List.append_assoc]
    exact q
/-- numbers as data -/
abbrev nat (n : Nat) : D := .int (n : Nat)
/-- a comprehension over numbers -/
theorem lcR_n {v : Nat} {te : TD} {ρ : Rho} {Q : List D → Store → Prop} (f : Nat → D) : ∀ (ns : List Nat) (acc : List D) (S : Store), (∀ n ∈ ns, ∀ Q' : D → Store → Prop, Q' (f n) S → te (ρ.set v (some (nat n))) S Q') → acc.length + ns.length ≤ 100000 →
    Q (acc ++ ns.map f) S → lcR v tdYes te ρ (ns.map nat) acc S Q
  | [], acc, S, _, _, q => by
    rw [List.map_nil, List.append_nil] at q
    exact q
  | d :: ds, acc, S, ht, hl, q => by
    rw [List.length_cons] at hl
    show te _ S _
    refine ht d List.mem_cons_self _ ⟨Nat.lt_of_lt_of_le (show acc.length < 100001 by omega) (sz5 (by omega)), ?_⟩
    refine lcR_n f ds (acc ++ [f d]) S (fun k hk => ht k (List.mem_cons_of_mem _ hk)) (by rw [List.length_append]; show acc.length + 1 + ds.length ≤ _; omega) ?_
    rw [List.append_assoc]
    exact q
theorem rng_nat (n : Nat) : rngD 0 ((n : Nat) : Int).toNat = (List.range' 0 n).map nat := by
  unfold rngD
  rw [Int.toNat_natCast, List.range_eq_range']
  refine List.map_congr_left fun i _ => ?_
  rw [Int.zero_add]
/-- a table that a list of pairs makes -/
theorem valD_merge (f : Nat → D) : ∀ (ns : List Nat) (kvs : List (DK × D)) (j : Nat), valD (mergeD kvs (ns.map fun n => ((Sum.inl ((n : Nat) : Int) : DK), f n))) (.inl (j : Nat)) = if j ∈ ns then some (f j) else valD kvs (.inl (j : Nat))
  | [], kvs, j => by
    rw [if_neg (by simp)]
    rfl
  | n :: ns, kvs, j => by
    show valD (mergeD (putD kvs (.inl (n : Nat)) (f n)) (ns.map _)) _ = _
    rw [valD_merge f ns]
    by_cases h : j ∈ ns
    · rw [if_pos h, if_pos (List.mem_cons_of_mem _ h)]
    · rw [if_neg h, valD_put]
      by_cases e : j = n
      · subst e
        rw [if_pos rfl, if_pos List.mem_cons_self]
      · rw [if_neg (fun z => e (by injection z with z; omega)), if_neg (fun z => (List.mem_cons.mp z).elim e h)]
theorem merge_len (f : Nat → D) : ∀ (ns : List Nat) (kvs : List (DK × D)), (mergeD kvs (ns.map fun n => ((Sum.inl ((n : Nat) : Int) : DK), f n))).length ≤ kvs.length + ns.length
  | [], kvs => Nat.le_refl _
  | n :: ns, kvs => by
    have h := merge_len f ns (putD kvs (.inl (n : Nat)) (f n))
    have h2 := put_len kvs (.inl (n : Nat)) (f n)
    show (mergeD (putD kvs (.inl (n : Nat)) (f n)) (ns.map _)).length ≤ _
    rw [List.length_cons]
    omega
theorem pairsD_nat (f : Nat → D) : ∀ ns : List Nat, pairsD (ns.map fun n => D.tup [nat n, f n]) = some (ns.map fun n => ((Sum.inl ((n : Nat) : Int) : DK), f n))
  | [] => rfl
  | n :: ns => by
    show (pairsD (ns.map fun n => D.tup [nat n, f n])).map _ = _
    rw [pairsD_nat f ns]
    rfl
theorem gIn_nat {f : Bool → Bool} {S : Store} {x : Nat} {ts : List Nat} {Q : D → Store → Prop} : gIn f S (.int (x : Nat)) (.lst (ts.map nat)) Q = Q (.bl (f (decide (x ∈ ts)))) S := by
  have e : ts.map nat = (ts.map fun (i : Nat) => (i : Int)).map D.int := by rw [List.map_map]; rfl
  rw [e, gIn_int]
  have h : decide ((x : Int) ∈ ts.map fun (i : Nat) => (i : Int)) = decide (x ∈ ts) := by
    by_cases h : x ∈ ts
    · rw [decide_eq_true h, decide_eq_true (List.mem_map.mpr ⟨x, h, rfl⟩)]
    · rw [decide_eq_false h, decide_eq_false (fun z => by
        obtain ⟨y, h1, h2⟩ := List.mem_map.mp z
        have : y = x := by omega
        exact h (this ▸ h1))]
  rw [h]
end DL
namespace DL
open PySem PySem.Spec L2
theorem ifS_cut {c : TDT} {t u : TDS} {D : DEnds} {ρ : Rho} {S : Store} (b : Bool) (hc : ∀ Q : Bool → Store → Prop, Q b S → c ρ S Q) (h1 : b = true → t D ρ S) (h2 : b = false → u D ρ S) : tdIfS c t u D ρ S := hc _ (by
  cases b with
  | true => exact iteT (h1 rfl)
  | false => exact iteF (h2 rfl))
end DL
namespace DL
open PySem PySem.Spec L2
theorem gTuple_ref {S : Store} {b : Addr} {ds : List D} {Q : D → Store → Prop} (h : S b = some (.lst ds)) (q : Q (.tup ds) S) : gTuple S [.ref b] Q := by
  show (match vw S (.ref b) with | .lst ds => Q (.tup ds) S | .tup ds => Q (.tup ds) S | _ => False)
  rw [vw_ref h]
  exact q
theorem gTuple_lst {S : Store} {ds : List D} {Q : D → Store → Prop} (q : Q (.tup ds) S) : gTuple S [.lst ds] Q := q
end DL
namespace DL
open PySem PySem.Spec L2
mutual
/-- a value as a nested key -/
def nkD : D → Option NestedKey
  | .non => some .none
  | .bl b => some (.num (if b = true then 1 else 0))
  | .int i => some (.num i)
  | .str t => some (.text (tS t))
  | .tup ds => (nkDs ds).map NestedKey.tup
  | .lst _ => none
  | .scr _ => none
  | .ref _ => none
  | .ty _ => none
  | .dct _ _ => none
def nkDs : List D → Option (List NestedKey)
  | [] => some []
  | d :: ds => (nkD d).bind fun k => (nkDs ds).map (k :: ·)
end
section
variable {K : PySem.W.Frag} {F : Hp}
mutual
theorem nkD_rel : ∀ (d : D) (v : V) (k : NestedKey), RelD K F d v → nkD d = some k → NK K F k v
  | .non, v, k, r, e => by unfold nkD at e; cases e; rw [r.non_e]; exact .none
  | .bl b, v, k, r, e => by unfold nkD at e; cases e; rw [r.bl_e]; exact .bool rfl
  | .int i, v, k, r, e => by unfold nkD at e; cases e; rw [r.int_e]; exact .int i
  | .str t, v, k, r, e => by unfold nkD at e; cases e; rw [r.str_e]; exact .text _
  | .tup ds, v, k, r, e => by
    unfold nkD at e
    obtain ⟨ks, e1, rfl⟩ := Option.map_eq_some_iff.mp e
    obtain ⟨a, vs, rfl, h1, h2⟩ := r.tup_e
    exact .tup h1 (nkDs_rel ds vs ks h2 e1)
  | .lst _, v, k, r, e => by unfold nkD at e; cases e
  | .scr _, v, k, r, e => by unfold nkD at e; cases e
  | .ref _, v, k, r, e => by unfold nkD at e; cases e
  | .ty _, v, k, r, e => by unfold nkD at e; cases e
  | .dct _ _, v, k, r, e => by unfold nkD at e; cases e
theorem nkDs_rel : ∀ (ds : List D) (vs : List V) (ks : List NestedKey), RelDs K F ds vs → nkDs ds = some ks → NKs K F ks vs
  | [], vs, ks, r, e => by
    unfold nkDs at e; cases e
    rw [r.nil_inv]; exact .nil
  | d :: ds, vs, ks, r, e => by
    unfold nkDs at e
    obtain ⟨k, e1, e2⟩ := Option.bind_eq_some_iff.mp e
    obtain ⟨ks', e3, rfl⟩ := Option.map_eq_some_iff.mp e2
    obtain ⟨v, q, rfl, h1, h2⟩ := r.cons_inv
    exact .cons (nkD_rel d v k h1 e1) (nkDs_rel ds q ks' h2 e3)
end
/-- the tuple y is the key k -/
def KeyD (y : D) (k : NestedKey) : Prop := nkD y = some k ∧ k.depth ≤ 8 ∧ ∃ ks, k = .tup ks
theorem KeyD.rel {d : D} {k : NestedKey} {v : V} (h : KeyD d k) (r : RelD K F d v) : KeyN K F k v := ⟨nkD_rel d v k r h.1, h.2⟩
theorem relN_keys {H : Hp} (sm : Same F H) : ∀ {kvs : List (NestedKey × D × D)} {xs : XN}, RelN K F kvs xs → ∀ x ∈ xs, KeyN K H x.1 (.ref x.2.1)
  | _, _, .nil, x, hx => nomatch hx
  | p :: _, q :: _, .cons h t, x, hx => by
    rcases List.mem_cons.mp hx with e | hx
    · subst e
      rw [← h.1]
      exact h.2.1.mono sm
    · exact relN_keys sm t x hx
theorem SR.nat {S : Store} {H : Hp} {a : Addr} {w : World} {kvs : List (NestedKey × D × D)} (sr : SR K F S H) (e : S a = some (.dn w a kvs)) : ∃ xs, NAt K w H a xs ∧ RelN K F kvs xs := by
  obtain ⟨xs, h1, h2⟩ := sr.dn e
  exact ⟨xs, ⟨h1, relN_keys sr.fro h2⟩, h2⟩
/-- d[k] = v on the table -/
def setN (kvs : List (NestedKey × D × D)) (k : NestedKey) (y v : D) : List (NestedKey × D × D) := pN (fun p => (p.1, v)) (y, v) kvs k
theorem setN_rel {kvs : List (NestedKey × D × D)} {xs : XN} {k : NestedKey} {b : Addr} {y d : D} {v : V} (h : RelN K F kvs xs) (hk : KeyN K F k (.ref b)) (hy : RelD K F y (.ref b)) (r : RelD K F d v) : RelN K F (setN kvs k y d) (putX xs k b v) :=
  paired_pN (fun p q z => z.1) (fun x y z => ⟨z.1, z.2.1, z.2.2.1, r⟩) ⟨rfl, hk, hy, r⟩ h
end
theorem vN_get {K : PySem.W.Frag} {F : Hp} {kvs : List (NestedKey × D × D)} {xs : XN} {k : NestedKey} {d : D} {y0 : D} (h : RelN K F kvs xs) (e : vN kvs k = some (y0, d)) : ∃ b v, vN xs k = some (b, v) ∧ RelD K F d v := by
  rcases paired_vN (k := k) (fun p q (z : RRN K F p q) => z.1) h with ⟨e1, _⟩ | ⟨x, y, e1, e2, e3⟩
  · rw [e1] at e; cases e
  · rw [e1] at e; cases e
    exact ⟨y.1, y.2, e2, e3.2.2.2⟩
theorem vN_some {K : PySem.W.Frag} {F : Hp} {kvs : List (NestedKey × D × D)} {xs : XN} {k : NestedKey} (h : RelN K F kvs xs) : (vN xs k).isSome = (vN kvs k).isSome := by
  rcases paired_vN (k := k) (fun p q (z : RRN K F p q) => z.1) h with ⟨e1, e2⟩ | ⟨x, y, e1, e2, e3⟩ <;> rw [e1, e2] <;> rfl
section
variable {X : Cx} {F0 : Ent} {e a b c o i : Expr} {t ta tb to ti : TD} {pos pos' : Pos} {w : World}
def tdNGet (w : World) (to ti : TD) : TD := fun ρ S Q => to ρ S fun x S1 => ti ρ S1 fun y S2 => ∃ a kvs k y0 d, x = .ref a ∧ S2 a = some (.dn w a kvs) ∧ KeyD y k ∧ vN kvs k = some (y0, d) ∧ Q d S2
theorem de_nget (hw : X.w = w) (hu : X.A.units + 65 < cLine) (ho : DE X F0 o to) (hi : DE X F0 i ti) (hs : NoSl i := by exact fun _ _ => rfl) : DE X F0 (.Subscript o i pos) (tdNGet w to ti) := by
  subst hw
  exact PE.weak (pe_nget (by omega) ho hi hs) fun σ H Q ⟨F, S, ρ, Q', at0, h, p⟩ => EL.go at0 h fun v1 H1 F1 S1 d1 x1 a1 r1 q1 => EL.go a1 q1 fun v2 H2 F2 S2 d2 x2 a2 r2 ⟨b, kvs, k, y0, d, e1, e2, e3, e4, q⟩ => by
    subst e1
    obtain ⟨xs, h1, h2⟩ := a2.sr.nat e2
    obtain ⟨b0, v, h3, h4⟩ := vN_get h2 e4
    exact ⟨b, xs, k, b0, v, r1.ref_e, h1, (e3.rel r2).mono a2.sr.fro, h3, p.of (x1.trans x2) a2.sr h4 q⟩
def gNIn (w : World) (f : Bool → Bool) : DOp := fun S x y Q => ∃ a kvs k, y = .ref a ∧ S a = some (.dn w a kvs) ∧ KeyD x k ∧ Q (.bl (f (vN kvs k).isSome)) S
theorem od_inN (hw : X.w = w) (hu : X.A.units + 65 < cLine) : OpR X (compareOp .In) (OL X.K (gNIn w id)) := by
  subst hw
  refine OpR.weak (op_nin (by omega)) fun x y H Q ⟨F, S, dx, dy, Q', sr, rx, ry, ⟨b, kvs, k, e1, e2, e3, q⟩, p⟩ => ?_
  subst e1
  obtain ⟨xs, h1, h2⟩ := sr.nat e2
  refine ⟨b, xs, k, ry.ref_e, h1, (e3.rel rx).mono sr.fro, ?_⟩
  rw [vN_some h2]
  exact p.of (Ext.refl _ _ _) sr (.bl_i _) q
theorem od_ninN (hw : X.w = w) (hu : X.A.units + 65 < cLine) : OpR X (compareOp .NotIn) (OL X.K (gNIn w not)) := by
  subst hw
  refine OpR.weak (op_nnin (by omega)) fun x y H Q ⟨F, S, dx, dy, Q', sr, rx, ry, ⟨b, kvs, k, e1, e2, e3, q⟩, p⟩ => ?_
  subst e1
  obtain ⟨xs, h1, h2⟩ := sr.nat e2
  refine ⟨b, xs, k, ry.ref_e, h1, (e3.rel rx).mono sr.fro, ?_⟩
  rw [vN_some h2]
  exact p.of (Ext.refl _ _ _) sr (.bl_i _) q
def tdNPut (w : World) (to ti te : TD) : TDS := fun D ρ S => te ρ S fun v S1 => to ρ S1 fun x S2 => ti ρ S2 fun y S3 => ∃ a kvs k, x = .ref a ∧ S3 a = some (.dn w a kvs) ∧ KeyD y k ∧ kvs.length < sizeLine ∧ D.nx ρ (sup S3 a (.dn w a (setN kvs k y v)))
theorem ds_nput (hw : X.w = w) (hu : X.A.units + 65 < cLine) (ho : DE X F0 o to) (hi : DE X F0 i ti) (he : DE X F0 e t) (hs : swapsWith e (some (.Subscript o i pos')) pos.line X.env = pure false := by rfl) : DS X F0 (.Assign [.Subscript o i pos'] e pos) (tdNPut w to ti t) := by
  subst hw
  exact PS.weak (ps_nput (by omega) ho hi he hs) fun D σ H ⟨F, S, ρ, D', at0, h, p⟩ => EL.go at0 h fun v0 H0 F0 S0 d0 x0 a0 r0 q0 => EL.go a0 q0 fun v1 H1 F1 S1 d1 x1 a1 r1 q1 => EL.go a1 q1 fun v2 H2 F2 S2 d2 x2 a2 r2 ⟨b, kvs, k, e1, e2, e3, hl, q⟩ => by
    subst e1
    obtain ⟨xs, h1, h2⟩ := a2.sr.nat e2
    have hk := e3.rel r2
    obtain ⟨c, rfl⟩ := hk.ref
    refine ⟨b, xs, k, c, r1.ref_e, rfl, h1, hk.mono a2.sr.fro, by rw [← Paired.length h2]; exact hl, ?_⟩
    exact p.1 _ _ _ _ _ (((x0.trans x1).trans x2).trans (a2.sr.ext_write e2)) (a2.sr.write (o := .dn X.w b (setN kvs k d2 d0)) e2 ⟨_, rfl, setN_rel h2 hk r2 (RelD.mono x2.same _ _ (RelD.mono x1.same _ _ r0))⟩) a2.env q
/-- {}, to be such a dict -/
def tdNNew (w : World) : TD := fun _ S Q => ∀ p, S p = none → Q (.ref p) (sup S p (.dn w p []))
theorem de_nnew (hw : X.w = w) : DE X F0 (.Dict [] [] pos) (tdNNew w) := by
  subst hw
  exact PE.weak pe_dnewN fun σ H Q ⟨F, S, ρ, Q', at0, h, p⟩ q hq => p.of (at0.sr.ext_box (o := .dn X.w q []) hq) (at0.sr.box (o := .dn X.w q []) hq ⟨_, rfl, .nil⟩) (.ref_i _) (h q (at0.sr.snone hq))
/-- {} -/
def tdDNew : TD := fun _ S Q => ∀ p, S p = none → Q (.ref p) (sup S p (.dic []))
theorem de_dnew : DE X F0 (.Dict [] [] pos) tdDNew :=
  PE.weak pe_dnewK fun σ H Q ⟨F, S, ρ, Q', at0, h, p⟩ q hq => p.of (at0.sr.ext_box (o := .dic []) hq) (at0.sr.box (o := .dic []) hq ⟨_, rfl, rfl⟩) (.ref_i _) (h q (at0.sr.snone hq))
end
def getF : List DK → List D → DK → Option D
  | k' :: ks, d :: ds, k => if k' = k then some d else getF ks ds k
  | _, _, _ => none
theorem getF_rel {K : PySem.W.Frag} {F : Hp} {k : DK} : ∀ {ks : List DK} {ds : List D} {vs : List V}, vs.length = ks.length → RelDs K F ds vs → (getF ks ds k = none ∧ valV ((ks.map kk).zip vs) (kk k) = none) ∨ ∃ d v, getF ks ds k = some d ∧ valV ((ks.map kk).zip vs) (kk k) = some v ∧ RelD K F d v
  | [], _, _, _, _ => by unfold getF; exact .inl ⟨by first | rfl | (split <;> first | rfl | contradiction), rfl⟩
  | k' :: ks, ds, [], hl, r => by simp at hl
  | k' :: ks, [], v :: vs, hl, r => by
    have := r.nil_inv
    cases this
  | k' :: ks, d :: ds, v :: vs, hl, r => by
    obtain ⟨v', q, e, h1, h2⟩ := r.cons_inv
    injection e with e1 e2
    subst e1 e2
    rw [List.map_cons, List.zip_cons_cons]
    unfold getF
    by_cases z : k' = k
    · rw [if_pos z]
      exact .inr ⟨d, v, rfl, valV_pos (by rw [z]), h1⟩
    · rw [if_neg z, valV_neg (fun y => z (kk_inj y))]
      exact getF_rel (by simpa using hl) h2
section
variable {X : Cx} {F0 : Ent} {e a b c o i : Expr} {t ta tb to ti : TD} {pos pos' : Pos}
def tdFGet (to ti : TD) : TD := fun ρ S Q => to ρ S fun x S1 => ti ρ S1 fun y S2 => ∃ ks ds k d, x = .dct ks ds ∧ y = kD k ∧ getF ks ds k = some d ∧ Q d S2
theorem de_fget (hu : X.A.units + 65 < cLine) (ho : DE X F0 o to) (hi : DE X F0 i ti) (hs : NoSl i := by exact fun _ _ => rfl) : DE X F0 (.Subscript o i pos) (tdFGet to ti) :=
  PE.weak (pe_dget (by omega) ho hi hs) fun σ H Q ⟨F, S, ρ, Q', at0, h, p⟩ => EL.go at0 h fun v1 H1 F1 S1 d1 x1 a1 r1 q1 => EL.go a1 q1 fun v2 H2 F2 S2 d2 x2 a2 r2 ⟨ks, ds, k, d, e1, e2, e3, q⟩ => by
    subst e1 e2
    obtain ⟨b, ob, vs, rfl, h1, h2, h3⟩ := (RelD.mono x2.same _ _ r1).dct_e
    rcases getF_rel (k := k) h2 h3 with ⟨z, _⟩ | ⟨d', v, z, h4, h5⟩
    · rw [z] at e3; cases e3
    · rw [z] at e3; cases e3
      refine ⟨b, v, rfl, .inl ⟨_, kk k, .inr ⟨ob, a2.sr.fro _ _ h1⟩, kD_rel r2, h4.symm⟩, p.of (x1.trans x2) a2.sr h5 q⟩
def gFIn (f : Bool → Bool) : DOp := fun S x y Q => ∃ ks ds k, y = .dct ks ds ∧ x = kD k ∧ Q (.bl (f (getF ks ds k).isSome)) S
theorem fin_case {K : PySem.W.Frag} {F : Hp} {S : Store} {H : Hp} {x y : D} {v u : V} {Q' : D → Store → Prop} {Q : VK} {f : Bool → Bool} (sr : SR K F S H) (rx : RelD K F x v) (ry : RelD K F y u) (h : gFIn f S x y Q') (p : Post K F S H Q' Q) :
    ∃ a o, u = .ref a ∧ DGet H a v o ∧ Q (.bl (f o.isSome)) H := by
  obtain ⟨ks, ds, k, e1, e2, q⟩ := h
  subst e1 e2
  obtain ⟨b, ob, vs, rfl, h1, h2, h3⟩ := ry.dct_e
  refine ⟨b, valV ((ks.map kk).zip vs) (kk k), rfl, .inl ⟨_, kk k, .inr ⟨ob, sr.fro _ _ h1⟩, kD_rel rx, rfl⟩, ?_⟩
  have e : (valV ((ks.map kk).zip vs) (kk k)).isSome = (getF ks ds k).isSome := by
    rcases getF_rel (k := k) h2 h3 with ⟨z, z2⟩ | ⟨d', v, z, h4, h5⟩
    · rw [z, z2]; rfl
    · rw [z, h4]; rfl
  rw [e]
  exact p.of (Ext.refl _ _ _) sr (.bl_i _) q
theorem od_inF (hu : X.A.units + 65 < cLine) : OpR X (compareOp .In) (OL X.K (gFIn id)) := by
  intro pins s σ H x y v u Q I rx ry ⟨F, S, dx, dy, Q', sr, r1, r2, g, p⟩
  obtain ⟨a, o, rfl, g, q⟩ := fin_case sr r1 r2 g p
  obtain rfl : u = Value.ref a := ry
  exact d_in (by omega) I g rx fun s3 I3 => ⟨.bl o.isSome, H, I3, rfl, q⟩
theorem od_ninF (hu : X.A.units + 65 < cLine) : OpR X (compareOp .NotIn) (OL X.K (gFIn not)) := by
  intro pins s σ H x y v u Q I rx ry ⟨F, S, dx, dy, Q', sr, r1, r2, g, p⟩
  obtain ⟨a, o, rfl, g, q⟩ := fin_case sr r1 r2 g p
  obtain rfl : u = Value.ref a := ry
  exact d_notIn (by omega) I g rx fun s3 I3 => ⟨.bl (!o.isSome), H, I3, rfl, q⟩
/-- for k in d -/
theorem Iters.keysF {K : PySem.W.Frag} {F : Hp} {a : Addr} {ob : Obj} {ks : List DK} {vs : List V} (h : F a = some (.frz ob (.dK ((ks.map kk).zip vs)))) (hl : vs.length = ks.length) : Iters K F (Itk a ob ((ks.map kk).zip vs)) (ks.map kD) where
  go := fun i H sm hi => by
    rw [List.length_map] at hi
    refine ⟨sm _ _ h, ?_⟩
    rw [List.length_zip, List.length_map]; omega
  stop := fun i H sm hi => by
    rw [List.length_map] at hi
    refine ⟨sm _ _ h, ?_⟩
    rw [List.length_zip, List.length_map]; omega
  yld := fun i x H H' F2 S sm sr y hi => by
    rw [List.length_map] at hi
    obtain ⟨rfl, k, v, e1, rfl⟩ := y
    have hki : (ks.map kD)[i]? = some (kD ks[i]) := by rw [List.getElem?_map, List.getElem?_eq_getElem hi]; rfl
    refine ⟨F2, kD ks[i], Ext.refl _ _ _, sr, hki, ?_⟩
    have e2 : k = kk ks[i] := by
      have e3 := (List.getElem?_zip_eq_some.mp e1).1
      rw [List.getElem?_map, List.getElem?_eq_getElem hi] at e3
      exact (Option.some.inj e3).symm
    rw [e2]
    exact kV_rel _
def tdiF (t : TD) : TDI := fun ρ S Q => t ρ S fun d S1 => ∃ ks ds, d = .dct ks ds ∧ Q (ks.map kD) S1
theorem di_F {tg : Expr} (he : DE X F0 e t) : DI X F0 tg e (tdiF t) :=
  PI.weak (pi_keys he) fun σ H R ⟨F, S, ρ, Q', a, h, pp⟩ => EL.go a h fun v H1 F1 S1 d x1 a1 r1 ⟨ks, ds, e1, q⟩ => by
    subst e1
    obtain ⟨b, ob, vs, rfl, h1, h2, h3⟩ := r1.dct_e
    exact ⟨b, ob, rfl, .inl ⟨_, a1.sr.fro _ _ h1, pp _ _ _ _ _ x1 a1.sr (.keysF h1 h2) q⟩⟩
/-- a written dict, from here on it stays -/
def tLocked (t : TE) : TE := fun σ H Q => t σ H fun v H1 => ∃ d kvs, v = .ref d ∧ H1 d = some (.dK kvs) ∧ ∀ od, Q v (upd H1 d (.frz od (.dK kvs)))
theorem pe_locked {t : TE} (h : PE X e t) : PE X e (tLocked t) := ⟨fun pins s σ H Q I q => thn (h.run pins s σ H _ I q) fun u s1 ⟨v, H1, I1, r, d, kvs, e1, e2, q1⟩ => by
  obtain ⟨od, I2⟩ := I1.lock e2 True.intro
  exact ⟨v, _, I2, r, q1 od⟩⟩
/-- keys that are all different, and their values -/
def splitK : List (D × D) → Option (List DK × List D)
  | [] => some ([], [])
  | (.int i, d) :: r => (splitK r).map fun p => (.inl i :: p.1, d :: p.2)
  | (.str t, d) :: r => (splitK r).map fun p => (.inr t :: p.1, d :: p.2)
  | _ => none
end
end DL
namespace DL
open PySem PySem.Spec L2
theorem splitK_rel {K : PySem.W.Frag} {F : Hp} : ∀ {ps : List (D × D)} {ws : List (V × V)} {ks : List DK} {ds : List D}, RelPs K F ps ws → splitK ps = some (ks, ds) →
    ∃ vs : List V, vs.length = ks.length ∧ RelDs K F ds vs ∧ ws = ((ks.map kk).zip vs).map (fun kv => (kV kv.1, kv.2))
  | [], _, _, _, h, e => by
    unfold splitK at e; cases e
    rw [show _ = _ from h]
    exact ⟨[], rfl, .nil, rfl⟩
  | (x, y) :: r, _, ks, ds, h, e => by
    obtain ⟨v, w, q, rfl, h1, h2, h3⟩ := h
    cases x with
    | int i =>
      unfold splitK at e
      obtain ⟨⟨ks', ds'⟩, e1, e2⟩ := Option.map_eq_some_iff.mp e
      cases e2
      obtain ⟨vs, k1, k2, k3⟩ := splitK_rel h3 e1
      obtain rfl := h1.int_e
      exact ⟨w :: vs, by simp [k1], .cons h2 k2, by rw [k3]; rfl⟩
    | str t =>
      unfold splitK at e
      obtain ⟨⟨ks', ds'⟩, e1, e2⟩ := Option.map_eq_some_iff.mp e
      cases e2
      obtain ⟨vs, k1, k2, k3⟩ := splitK_rel h3 e1
      obtain rfl := h1.str_e
      exact ⟨w :: vs, by simp [k1], .cons h2 k2, by rw [k3]; rfl⟩
    | _ => unfold splitK at e; cases e
theorem valV_out {κ : Type} [DecidableEq κ] {k : κ} : ∀ {l : List (κ × V)}, k ∉ l.map (·.1) → valV l k = none
  | [], _ => rfl
  | p :: l, h => by
    rw [List.map_cons, List.mem_cons] at h
    rw [valV_neg fun z => h (.inl z.symm)]
    exact valV_out fun z => h (.inr z)
theorem mergeK_nodup : ∀ (l acc : List (Key × V)), ((acc ++ l).map (·.1)).Nodup → mergeK acc l = acc ++ l
  | [], acc, _ => by rw [List.append_nil]; rfl
  | p :: l, acc, h => by
    show mergeK (putK acc p.1 p.2) l = _
    have hn : p.1 ∉ acc.map (·.1) := fun z => by
      rw [List.map_append, List.map_cons] at h
      exact (List.nodup_append.mp h).2.2 _ z _ List.mem_cons_self rfl
    rw [putK_new _ (valV_out hn)]
    rw [mergeK_nodup l _ (by rw [List.append_assoc]; exact h), List.append_assoc]
    rfl
theorem zip_fst {α β : Type} : ∀ {l : List α} {m : List β}, m.length = l.length → (l.zip m).map (·.1) = l
  | [], _, _ => rfl
  | a :: l, [], h => by simp at h
  | a :: l, b :: m, h => by rw [List.zip_cons_cons, List.map_cons, zip_fst (by simpa using h)]
theorem kk_nodup {ks : List DK} (h : ks.Nodup) : (ks.map kk).Nodup := by
  induction ks with
  | nil => exact List.nodup_nil
  | cons k ks ih =>
    rw [List.nodup_cons] at h
    rw [List.map_cons, List.nodup_cons]
    refine ⟨fun z => ?_, ih h.2⟩
    obtain ⟨k', h1, h2⟩ := List.mem_map.mp z
    exact h.1 (kk_inj h2 ▸ h1)
section
variable {X : Cx} {F0 : Ent} {e a b c o i : Expr} {t ta tb to ti : TD} {pos pos' : Pos} {w : World}
def tdDctF (trs : List (TD × TD)) : TD := fun ρ S Q => tdPairs trs ρ S fun ps S2 => ∃ ks ds, splitK ps = some (ks, ds) ∧ ks.Nodup ∧ ks.length ≤ 15 ∧ Q (.dct ks ds) S2
theorem de_dctF {keys : List (Option Expr)} {values : List Expr} {trs : List (TD × TD)} (h : DPs X F0 pos keys values trs) (hall : keys.all (·.isSome) = true := by rfl) (hl : keys.length = values.length := by rfl) (h0 : keys ≠ [] := by exact fun z => nomatch z) (h15 : keys.length ≤ 15 := by decide) : DE X F0 (.Dict keys values pos) (tdDctF trs) :=
  PE.weak (pe_locked (pe_disp h.pps hall hl h0 h15)) fun σ H Q ⟨F, S, ρ, Q', a, h, p⟩ pp hp => by
    have al : At X.K F0 F S (upd H pp (.dK [])) ρ σ := ⟨a.f0.trans (Ext.laid hp), a.sr.laid hp, a.env⟩
    refine pairs_go al h fun ws H1 F1 S1 ps x1 a1 r1 ⟨ks, ds, e1, e2, e3, q⟩ => ?_
    obtain ⟨nF, nS, hH⟩ := x1.laid_none a.sr hp
    obtain ⟨vs, k1, k2, k3⟩ := splitK_rel r1 e1
    refine ⟨hH, (ks.map kk).zip vs, k3, by rw [List.length_zip, List.length_map]; omega, pp, _, rfl, upd_same, fun od => ?_⟩
    rw [upd_upd]
    have em : mergeK [] ((ks.map kk).zip vs) = (ks.map kk).zip vs := by
      rw [mergeK_nodup _ _ (by rw [List.nil_append, zip_fst (by simpa using k1)]; exact kk_nodup e2)]
      rfl
    rw [em]
    obtain ⟨k4, k5⟩ := a1.sr.adoptF (ho := .frz od (.dK ((ks.map kk).zip vs))) nF nS
    exact p.of (x1.adoptF hp nF) k4 (.dct_i upd_same k1 (RelDs.mono k5 _ _ k2)) q
def dcR (v : Nat) (tt : TDT) (tk te : TD) (ρ : Rho) : List D → List (DK × D) → Store → (List (DK × D) → Store → Prop) → Prop
  | [], acc, S, Q => Q acc S
  | d :: ds, acc, S, Q => tt (ρ.set v (some d)) S fun b S1 => if b = true then tk (ρ.set v (some d)) S1 fun y S2 => te (ρ.set v (some d)) S2 fun z S3 => ∃ k, y = kD k ∧ acc.length < sizeLine ∧ dcR v tt tk te ρ ds (putD acc k z) S3 Q else dcR v tt tk te ρ ds acc S1 Q
def tdDc (ti : TDI) (v : Nat) (tt : TDT) (tk te : TD) : TD := fun ρ S Q => ti ρ S fun ds S1 => dcR v tt tk te ρ ds [] S1 fun kvs S2 => ∀ p, S2 p = none → Q (.ref p) (sup S2 p (.dic kvs))
theorem dc_go {ti : TDI} {v : Nat} {tt : TDT} {tk te : TD} {K : PySem.W.Frag} {σ : L2.St} {H : Hp} {Q : VK} (h : EL K F0 (tdDc ti v tt tk te) σ H Q) : tDc (IL K F0 ti) (gName v) (TL K F0 tt) (EL K F0 tk) (EL K F0 te) [v] σ H Q := by
  obtain ⟨F, S, ρ, Q', a, h, p⟩ := h
  refine IL.go a h fun J H1 F1 S1 ds x1 a1 it q1 D hD => ?_
  refine ⟨fun i m H => m = ds.length - i ∧ i ≤ ds.length ∧ ∃ F S acc vs, Ext F1 S1 (upd H1 D (.dK vs)) F S H ∧ SR K F S H ∧ RelF K F (kmap acc) vs ∧ dcR v tt tk te ρ (ds.drop i) acc S fun kvs S2 => ∀ p, S2 p = none → Q' (.ref p) (sup S2 p (.dic kvs)),
    ⟨ds.length, by omega, Nat.zero_le _, F1, S1, [], [], Ext.refl _ _ _, a1.sr.laid hD, rfl, q1⟩, ?_⟩
  rintro i m H2 ⟨rfl, hi, F2, S2, acc, vs, x2, sr2, racc, q2⟩
  have sm : Same F1 H2 := x2.same.trans sr2.fro
  obtain ⟨nF, nS, hH⟩ := x2.laid_none a1.sr hD
  by_cases hlt : i < ds.length
  · refine .inr ⟨it.go i H2 sm hlt, fun H => ∃ F S acc vs, Ext F1 S1 (upd H1 D (.dK vs)) F S H ∧ SR K F S H ∧ RelF K F (kmap acc) vs ∧ dcR v tt tk te ρ (ds.drop (i + 1)) acc S fun kvs S2 => ∀ p, S2 p = none → Q' (.ref p) (sup S2 p (.dic kvs)), fun H' n => ⟨ds.length - (i + 1), by omega, rfl, hlt, n⟩, fun x H' y => ?_⟩
    obtain ⟨F3, d, x3, sr3, hd, rd⟩ := it.yld i x H2 H' F2 S2 x2.same sr2 y hlt
    have e : ds.drop i = d :: ds.drop (i + 1) := by
      rw [List.drop_eq_getElem_cons hlt]
      congr 1
      rw [List.getElem?_eq_getElem hlt] at hd
      exact Option.some.inj hd
    rw [e] at q2
    have x13 : Ext F1 S1 (upd H1 D (.dK vs)) F3 S2 H' := x2.trans x3
    have a3 : At K F0 F3 S2 H' (ρ.set v (some d)) ((wipe σ [v]).set v (some x)) := by
      refine ⟨a1.f0.trans ((Ext.laid hD).trans x13), sr3, ?_⟩
      have h0 : (wipe σ [v]).set v (some x) = σ.set v (some x) := by
        show (σ.set v none).set v (some x) = _
        rw [List.set_set]
      rw [h0]
      exact (a1.env.mono x13.same).set rd v
    refine ⟨?_, ?_⟩
    · show ((σ.set v none).set v (some x)).set v none = σ.set v none
      rw [List.set_set, List.set_set]
    · refine TL.go a3 q2 fun b H4 F4 S4 x4 a4 q4 => ?_
      cases b with
      | false => exact iteF ⟨F4, S4, acc, vs, x13.trans x4, a4.sr, (racc.mono x3.same).mono x4.same, q4⟩
      | true =>
        refine iteT (EL.go a4 q4 fun w H5 F5 S5 yd x5 a5 r5 q5 => EL.go a5 q5 fun w6 H6 F6 S6 zd x6 a6 r6 ⟨k, ek, hl, q6⟩ => ?_)
        subst ek
        have x16 := ((x13.trans x4).trans x5).trans x6
        obtain ⟨nF6, nS6, hH6⟩ := x16.laid_none a1.sr hD
        have racc6 := (((racc.mono x3.same).mono x4.same).mono x5.same).mono x6.same
        refine ⟨vs, kk k, kD_rel r5, hH6, by rw [racc6.length, List.length_map]; exact hl, ?_⟩
        exact ⟨F6, S6, putD acc k zd, putK vs (kk k) w6, Ext.reset (K := K) x16, a6.sr.re nF6 nS6, putD_rel r6 racc6, q6⟩
  · refine .inl ⟨it.stop i H2 sm (by omega), ?_⟩
    rw [List.drop_eq_nil_of_le (by omega)] at q2
    have k1 := sr2.adoptS (F := F2) (o := .dic acc) (ho := .dK vs) nF ⟨_, rfl, racc⟩
    have k3 := x2.adoptS (o := .dic acc) (ho := .dK vs) hD
    rw [upd_id hH] at k1 k3
    exact p.of (x1.trans k3) k1 (.ref_i _) (q2 D nS)
theorem de_dc {kx vx iter : Expr} {ifs : List Expr} {scope : Scope} {x : Str} {xp : Pos} {v : Nat} {ti : TDI} {tt : TDT} {tk te : TD} (hc : X.calm = true) (hN : X.N.Nodup) (hi : DI X F0 (.Name x xp) iter ti) (ok : BlkOk X.N X.env.scope scope [(x, v)])
    (hg : ∀ (s : Shared) (H : Hp) (C : Addr) (cl : List (Str × Addr)) (fp : List Addr), PG (X.blk s H scope (compEnvC scope cl C X.env) fp) (.Name x xp) (gName v))
    (ht : ∀ (s : Shared) (H : Hp) (C : Addr) (cl : List (Str × Addr)) (fp : List Addr), DTs (X.blk s H scope (compEnvC scope cl C X.env) fp) F0 ifs tt)
    (hk : ∀ (s : Shared) (H : Hp) (C : Addr) (cl : List (Str × Addr)) (fp : List Addr), DE (X.blk s H scope (compEnvC scope cl C X.env) fp) F0 kx tk)
    (he : ∀ (s : Shared) (H : Hp) (C : Addr) (cl : List (Str × Addr)) (fp : List Addr), DE (X.blk s H scope (compEnvC scope cl C X.env) fp) F0 vx te) (hs : ∀ x, foldedSetIterable iter X.env x = pure x := by intro _; rfl) :
    DE X F0 (.DictComp kx vx [⟨.Name x xp, iter, ifs, 0⟩] scope pos) (tdDc ti v tt tk te) :=
  PE.weak (pe_dc (own := [(x, v)]) (tt := TL X.K F0 tt) (tk := EL X.K F0 tk) (tv := EL X.K F0 te) hc hN hi ok hg ht hk he hs) fun σ H Q h => dc_go h
/-- .. keys nested tuples -/
def dnR (v : Nat) (tt : TDT) (tk te : TD) (ρ : Rho) : List D → List (NestedKey × D × D) → Store → (List (NestedKey × D × D) → Store → Prop) → Prop
  | [], acc, S, Q => Q acc S
  | d :: ds, acc, S, Q => tt (ρ.set v (some d)) S fun b S1 => if b = true then tk (ρ.set v (some d)) S1 fun y S2 => te (ρ.set v (some d)) S2 fun z S3 => ∃ k, KeyD y k ∧ acc.length < sizeLine ∧ dnR v tt tk te ρ ds (setN acc k y z) S3 Q else dnR v tt tk te ρ ds acc S1 Q
def tdDcN (w : World) (ti : TDI) (v : Nat) (tt : TDT) (tk te : TD) : TD := fun ρ S Q => ti ρ S fun ds S1 => dnR v tt tk te ρ ds [] S1 fun kvs S2 => ∀ p, S2 p = none → Q (.ref p) (sup S2 p (.dn w p kvs))
theorem dn_go {ti : TDI} {v : Nat} {tt : TDT} {tk te : TD} {K : PySem.W.Frag} {σ : L2.St} {H : Hp} {Q : VK} (h : EL K F0 (tdDcN w ti v tt tk te) σ H Q) : tDcN K w (IL K F0 ti) (gName v) (TL K F0 tt) (EL K F0 tk) (EL K F0 te) [v] σ H Q := by
  obtain ⟨F, S, ρ, Q', a, h, p⟩ := h
  refine IL.go a h fun J H1 F1 S1 ds x1 a1 it q1 D hD => ?_
  refine ⟨fun i m H => m = ds.length - i ∧ i ≤ ds.length ∧ ∃ F S acc vs, Ext F1 S1 (upd H1 D (NObj w D vs)) F S H ∧ SR K F S H ∧ RelN K F acc vs ∧ dnR v tt tk te ρ (ds.drop i) acc S fun kvs S2 => ∀ p, S2 p = none → Q' (.ref p) (sup S2 p (.dn w p kvs)),
    ⟨ds.length, by omega, Nat.zero_le _, F1, S1, [], [], Ext.refl _ _ _, a1.sr.laid hD, .nil, q1⟩, ?_⟩
  rintro i m H2 ⟨rfl, hi, F2, S2, acc, vs, x2, sr2, racc, q2⟩
  have sm : Same F1 H2 := x2.same.trans sr2.fro
  obtain ⟨nF, nS, hH⟩ := x2.laid_none a1.sr hD
  by_cases hlt : i < ds.length
  · refine .inr ⟨it.go i H2 sm hlt, fun H => ∃ F S acc vs, Ext F1 S1 (upd H1 D (NObj w D vs)) F S H ∧ SR K F S H ∧ RelN K F acc vs ∧ dnR v tt tk te ρ (ds.drop (i + 1)) acc S fun kvs S2 => ∀ p, S2 p = none → Q' (.ref p) (sup S2 p (.dn w p kvs)), fun H' n => ⟨ds.length - (i + 1), by omega, rfl, hlt, n⟩, fun x H' y => ?_⟩
    obtain ⟨F3, d, x3, sr3, hd, rd⟩ := it.yld i x H2 H' F2 S2 x2.same sr2 y hlt
    have e : ds.drop i = d :: ds.drop (i + 1) := by
      rw [List.drop_eq_getElem_cons hlt]
      congr 1
      rw [List.getElem?_eq_getElem hlt] at hd
      exact Option.some.inj hd
    rw [e] at q2
    have x13 : Ext F1 S1 (upd H1 D (NObj w D vs)) F3 S2 H' := x2.trans x3
    have a3 : At K F0 F3 S2 H' (ρ.set v (some d)) ((wipe σ [v]).set v (some x)) := by
      refine ⟨a1.f0.trans ((Ext.laid hD).trans x13), sr3, ?_⟩
      have h0 : (wipe σ [v]).set v (some x) = σ.set v (some x) := by
        show (σ.set v none).set v (some x) = _
        rw [List.set_set]
      rw [h0]
      exact (a1.env.mono x13.same).set rd v
    refine ⟨?_, ?_⟩
    · show ((σ.set v none).set v (some x)).set v none = σ.set v none
      rw [List.set_set, List.set_set]
    · refine TL.go a3 q2 fun b H4 F4 S4 x4 a4 q4 => ?_
      cases b with
      | false => exact iteF ⟨F4, S4, acc, vs, x13.trans x4, a4.sr, RelN.mono x4.same (RelN.mono x3.same racc), q4⟩
      | true =>
        refine iteT (EL.go a4 q4 fun v5 H5 F5 S5 yd x5 a5 r5 q5 => EL.go a5 q5 fun v6 H6 F6 S6 zd x6 a6 r6 ⟨k, ek, hl, q6⟩ => ?_)
        have x16 := ((x13.trans x4).trans x5).trans x6
        obtain ⟨nF6, nS6, hH6⟩ := x16.laid_none a1.sr hD
        have racc6 := RelN.mono x6.same (RelN.mono x5.same (RelN.mono x4.same (RelN.mono x3.same racc)))
        have hk := ek.rel (RelD.mono x6.same _ _ r5)
        obtain ⟨c, rfl⟩ := hk.ref
        refine ⟨vs, k, c, rfl, ⟨hH6, relN_keys a6.sr.fro racc6⟩, hk.mono a6.sr.fro, by rw [← Paired.length racc6]; exact hl, ?_⟩
        exact ⟨F6, S6, setN acc k yd zd, putX vs k c v6, Ext.reset (K := K) x16, a6.sr.re nF6 nS6, setN_rel racc6 hk (RelD.mono x6.same _ _ r5) r6, q6⟩
  · refine .inl ⟨it.stop i H2 sm (by omega), ?_⟩
    rw [List.drop_eq_nil_of_le (by omega)] at q2
    have k1 := sr2.adoptS (F := F2) (o := .dn w D acc) (ho := NObj w D vs) nF ⟨_, rfl, racc⟩
    have k3 := x2.adoptS (o := .dn w D acc) (ho := NObj w D vs) hD
    rw [upd_id hH] at k1 k3
    exact p.of (x1.trans k3) k1 (.ref_i _) (q2 D nS)
theorem de_dcN {kx vx iter : Expr} {ifs : List Expr} {scope : Scope} {x : Str} {xp : Pos} {v : Nat} {ti : TDI} {tt : TDT} {tk te : TD} (hw : X.w = w) (hu : X.A.units + 65 < cLine) (hc : X.calm = true) (hN : X.N.Nodup) (hi : DI X F0 (.Name x xp) iter ti) (ok : BlkOk X.N X.env.scope scope [(x, v)])
    (hg : ∀ (s : Shared) (H : Hp) (C : Addr) (cl : List (Str × Addr)) (fp : List Addr), PG (X.blk s H scope (compEnvC scope cl C X.env) fp) (.Name x xp) (gName v))
    (ht : ∀ (s : Shared) (H : Hp) (C : Addr) (cl : List (Str × Addr)) (fp : List Addr), DTs (X.blk s H scope (compEnvC scope cl C X.env) fp) F0 ifs tt)
    (hk : ∀ (s : Shared) (H : Hp) (C : Addr) (cl : List (Str × Addr)) (fp : List Addr), DE (X.blk s H scope (compEnvC scope cl C X.env) fp) F0 kx tk)
    (he : ∀ (s : Shared) (H : Hp) (C : Addr) (cl : List (Str × Addr)) (fp : List Addr), DE (X.blk s H scope (compEnvC scope cl C X.env) fp) F0 vx te) (hs : ∀ x, foldedSetIterable iter X.env x = pure x := by intro _; rfl) :
    DE X F0 (.DictComp kx vx [⟨.Name x xp, iter, ifs, 0⟩] scope pos) (tdDcN w ti v tt tk te) := by
  subst hw
  exact PE.weak (pe_dcN (own := [(x, v)]) (tt := TL X.K F0 tt) (tk := EL X.K F0 tk) (tv := EL X.K F0 te) (by omega) hc hN hi ok hg ht hk he hs) fun σ H Q h => dn_go h
def tdTru (t : TD) : TDT := fun ρ S Q => t ρ S fun d S1 => ∃ ds, vw S1 d = .lst ds ∧ Q (!ds.isEmpty) S1
theorem dt_tru (h : DE X F0 e t) (he : ∀ whole, isTrue e X.env whole = (do let v ← whole; standAt e.pos; holding [v] (truthy v)) := by intro _; rfl) : DT X F0 e (tdTru t) :=
  PT.weak (pt_truth h he) fun σ H Q ⟨F, S, ρ, Q', at0, h, p⟩ => EL.go at0 h fun v H1 F1 S1 d x1 a1 r1 ⟨ds, e1, q⟩ => by
    obtain ⟨b, vs, rfl, h1, h2⟩ := vw_lst a1.sr r1 e1
    refine ⟨!vs.isEmpty, .inl ⟨vs, .of h1, rfl⟩, ?_⟩
    have e2 : vs.isEmpty = ds.isEmpty := by
      have := h2.length
      cases vs <;> cases ds <;> simp_all
    rw [e2]
    exact p _ _ _ _ x1 a1.sr q
end
end DL
namespace DL
open PySem PySem.Spec PyProof.Rows L2 HT
section
variable {prog : Program} {w : World} {A : Around} {E : Value → Shared → Prop} {s : Shared}
theorem noI_tuple_add : typeLookup (.type "tuple") (dunderI "add") = pure none := by rw [typeLookup_type, builtinLookup_eq_fast]; kernel_rfl
theorem iconcat {T id : String} {B : Builtin} {a b : Value} {S : PySem.Spec} {Q : Value → Shared → Prop} (ha : s.TypeIs a T) (hb : s.TypeIs b T) (hno : typeLookup (.type T) (dunderI "add") = pure none)
    (hfill : fillsNumberSlot (.type T) "add" = pure false) (hseq : seqSlot? (.type T) "__add__" = pure (some (.builtin id))) (slot : Slot T "__add__" id)
    (entry : entryFor table id = some B) (args : argsOk id ⟨[a, b], []⟩) (g : Meets (B ⟨[a, b], []⟩) S) (h : S A (wants Q E) s) : wpAny (model prog w) A (inplaceOp .Add a b) Q E s :=
  wpAny_inplaceOp_concat ha hb hno hfill hseq (call_meets slot ha entry args g h)
theorem icat_tup {t b : Addr} {vs ws : List Value} {Q : Value → Shared → Prop} (ht : IsTup s.heap t vs.toArray) (hb : IsTup s.heap b ws.toArray)
    (h0 : vs = [] → Q (.ref b) s) (h1 : vs ≠ [] → ws = [] → Q (.ref t) s) (h2 : vs ≠ [] → ws ≠ [] → Q (.ref s.heap.objs.size) { s with heap := s.heap.push { cls := .type "tuple", data := .seq (vs ++ ws).toArray } })
    (hsz : vs.length + ws.length ≤ sizeLine) : wpAny (model prog w) A (inplaceOp .Add (.ref t) (.ref b)) Q E s := by
  obtain ⟨⟨cls, dd, data, sl⟩, ho, hc, n, hd⟩ := id ht
  obtain ⟨⟨cls2, dd2, data2, sl2⟩, ho2, hc2, n2, hd2⟩ := id hb
  simp only at hc hd hc2 hd2
  subst hc hd hc2 hd2
  have e : vs.toArray ++ ws.toArray = (vs ++ ws).toArray := by simp
  by_cases hv : vs = []
  · subst hv
    exact iconcat ⟨_, ho, rfl⟩ ⟨_, ho2, rfl⟩ noI_tuple_add noFill_tuple_add seq_tuple_add PySem.F.slot_tuple_add PySem.F.entry_tuple_add (PySem.F.args_tuple_add_2 _ _)
      (tuple_addW0 t b ([] : List Value).toArray ws.toArray n n2 dd dd2 sl sl2 (by simp)) ⟨ho, ho2, h0 rfl⟩
  · by_cases hw : ws = []
    · exact iconcat ⟨_, ho, rfl⟩ ⟨_, ho2, rfl⟩ noI_tuple_add noFill_tuple_add seq_tuple_add PySem.F.slot_tuple_add PySem.F.entry_tuple_add (PySem.F.args_tuple_add_2 _ _)
        (tuple_addW1 t b vs.toArray ws.toArray n n2 dd dd2 sl sl2 (by simpa using hv) (by simp [hw])) ⟨ho, ho2, h1 hv hw⟩
    · refine iconcat ⟨_, ho, rfl⟩ ⟨_, ho2, rfl⟩ noI_tuple_add noFill_tuple_add seq_tuple_add PySem.F.slot_tuple_add PySem.F.entry_tuple_add (PySem.F.args_tuple_add_2 _ _)
        (tuple_addW2 t b vs.toArray ws.toArray n n2 dd dd2 sl sl2 (by simpa using hv) (by simpa using hw) (by rw [List.size_toArray, List.size_toArray]; exact hsz)) ⟨ho, ho2, ?_⟩
      rw [e]
      exact h2 hv hw
end
section
variable {X : Cx} {F0 : Ent} {e a b c o i : Expr} {t ta tb to ti : TD} {pos pos' : Pos} {w : World}
/-- t += u, tuples -/
def gTupTup : DOp := fun S x y Q => ∃ xs ys, x = .tup xs ∧ y = .tup ys ∧ xs.length + ys.length ≤ sizeLine ∧ Q (.tup (xs ++ ys)) S
theorem in_addT : InOp X .Add (OL X.K gTupTup) := by
  rintro pins s σ H x y u v Q I rx ry ⟨F, S, dx, dy, Q', sr, r1, r2, ⟨xs, ys, rfl, rfl, hl, q⟩, p⟩
  have r1' := r1
  have r2' := r2
  obtain ⟨a, vs, rfl, h1, k1⟩ := r1.tup_e
  obtain ⟨b, us, rfl, h2, k2⟩ := r2.tup_e
  obtain rfl : u = Value.ref a := rx
  obtain rfl : v = Value.ref b := ry
  have h1H := seqT sr.fro h1
  have h2H := seqT sr.fro h2
  obtain ⟨its, rv1, p1, _⟩ := I.tuple h1H
  obtain ⟨its2, rv2, p2, _⟩ := I.tuple h2H
  have l1 := rv1.length
  have l2 := rv2.length
  have e1 := k1.length
  have e2 := k2.length
  refine icat_tup p1 p2 (fun z => ?_) (fun z z2 => ?_) (fun z z2 => ?_) (by omega)
  · have : xs = [] := List.length_eq_zero_iff.mp (by rw [← e1, l1, z]; rfl)
    subst this
    exact ⟨.ref b, H, I, rfl, p.of (Ext.refl _ _ _) sr r2' q⟩
  · have : ys = [] := List.length_eq_zero_iff.mp (by rw [← e2, l2, z2]; rfl)
    subst this
    rw [List.append_nil] at q
    exact ⟨.ref a, H, I, rfl, p.of (Ext.refl _ _ _) sr r1' q⟩
  · have nH : H s.heap.objs.size = none := I.hok.fresh (Nat.le_refl _)
    have hz : (vs ++ us).length ≤ sizeLine := by rw [List.length_append]; omega
    refine ⟨.ref s.heap.objs.size, upd H s.heap.objs.size (.tup (vs ++ us)), ?_, rfl, p.of (sr.ext_frz nH) (sr.frz nH) (.tup_i (.inl (.inl upd_same)) (RelDs.mono (sr.same_frz nH) _ _ (k1.append k2))) q⟩
    exact I.laid (t' := s.toks) (fun _ _ q => Heap.get?_push_of_some _ q) (Nat.le_refl _) ⟨hz, its ++ its2, rv1.append rv2, _, Heap.get?_push_size _ rfl, rfl, 0, rfl⟩
/-- d[k] op= v, by any rule -/
def tdDAugG (to ti te : TD) (g : DOp) : TDS := fun D ρ S => to ρ S fun x S1 => ti ρ S1 fun y S2 => ∃ a kvs k n, x = .ref a ∧ S2 a = some (.dic kvs) ∧ y = kD k ∧ valD kvs k = some n ∧
  te ρ S2 fun z S3 => g S3 n z fun r S4 => ∃ kvs', S4 a = some (.dic kvs') ∧ kvs'.length < sizeLine ∧ D.nx ρ (sup S4 a (.dic (putD kvs' k r)))
theorem ds_daugG {op : Operator} {g : DOp} (hu : X.A.units + 65 < cLine) (ho : DE X F0 o to) (hi : DE X F0 i ti) (he : DE X F0 e t) (hop : InOp X op (OL X.K g))
    (ha : ∀ ov iv new, augStore i ov iv new = (do holding [new, ov, iv] (setItem ov iv new); release [new, ov, iv] []; pure .next) := by intros; rfl) : DS X F0 (.AugAssign (.Subscript o i pos') op e pos) (tdDAugG to ti t g) :=
  PS.weak (ps_daug (by omega) ho hi he hop ha) fun D σ H ⟨F, S, ρ, D', at0, h, p⟩ => EL.go at0 h fun v1 H1 F1 S1 d1 x1 a1 r1 q1 => EL.go a1 q1 fun v2 H2 F2 S2 d2 x2 a2 r2 ⟨b, kvs, k, n, e1, e2, e3, e4, q⟩ => by
    subst e1; subst e3
    obtain ⟨ws, h1, h2⟩ := a2.sr.dic e2
    obtain ⟨v, h3, h4⟩ := valD_rel h2 e4
    refine ⟨b, v, r1.ref_e, ?_, EL.go a2 q fun v3 H3 F3 S3 d3 x3 a3 r3 q3 => ?_⟩
    · rw [kD_rel r2, ← h3]; exact DGet.k h1
    · refine ⟨F3, S3, n, d3, _, a3.sr, RelD.mono x3.same _ _ h4, r3, q3, fun v4 H4 F4 S4 d4 x4 sr4 r4 ⟨kvs', e6, hl, q4⟩ => ?_⟩
      obtain ⟨us, h5, h6⟩ := sr4.dic e6
      refine ⟨upd H4 b (.dK (putK us (kk k) v4)), ?_, p.1 _ _ _ _ _ ((((x1.trans x2).trans x3).trans x4).trans (sr4.ext_write e6)) (sr4.write (o := .dic (putD kvs' k d4)) e6 ⟨_, rfl, putD_rel r4 h6⟩) (a3.env.mono x4.same) q4⟩
      rw [kD_rel r2]
      exact DPut.k h5 (by rw [h6.length, List.length_map]; exact hl)
end
end DL
namespace DL
open PySem PySem.Spec L2
section
variable {X : Cx} {F0 : Ent} {pos : Pos}
def lc2R (v v1 : Nat) (ti1 : TDI) (te : TD) (ρ : Rho) : List D → List D → Store → (List D → Store → Prop) → Prop
  | [], acc, S, Q => Q acc S
  | d :: ds, acc, S, Q => ti1 (ρ.set v (some d)) S fun es S1 => lcR v1 tdYes te (ρ.set v (some d)) es acc S1 fun acc' S2 => lc2R v v1 ti1 te ρ ds acc' S2 Q
def tdLc2 (ti : TDI) (v v1 : Nat) (ti1 : TDI) (te : TD) : TD := fun ρ S Q => ti ρ S fun ds S1 => lc2R v v1 ti1 te (unsetD ρ [v, v1]) ds [] S1 fun ys S2 => Q (.lst ys) S2
theorem lc2_go {ti ti1 : TDI} {v v1 : Nat} {te : TD} {K : PySem.W.Frag} {σ : L2.St} {H : Hp} {Q : VK} (h : EL K F0 (tdLc2 ti v v1 ti1 te) σ H Q) :
    tLc2 (IL K F0 ti) (gName v) (TL K F0 tdYes) (IL K F0 ti1) (gName v1) (TL K F0 tdYes) (EL K F0 te) [v, v1] [v1] σ H Q := by
  obtain ⟨F, S, ρ, Q', a, h, p⟩ := h
  refine IL.go a h fun J H1 F1 S1 ds x1 a1 it q1 D hD => ?_
  refine ⟨fun i m H => m = ds.length - i ∧ i ≤ ds.length ∧ ∃ F S acc vs, Ext F1 S1 (upd H1 D (.lst vs)) F S H ∧ SR K F S H ∧ RelDs K F acc vs ∧ lc2R v v1 ti1 te (unsetD ρ [v, v1]) (ds.drop i) acc S fun ys S2 => Q' (.lst ys) S2,
    ⟨ds.length, by omega, Nat.zero_le _, F1, S1, [], [], Ext.refl _ _ _, a1.sr.laid hD, .nil, q1⟩, ?_⟩
  rintro i m H2 ⟨rfl, hi, F2, S2, acc, vs, x2, sr2, racc, q2⟩
  have sm : Same F1 H2 := x2.same.trans sr2.fro
  obtain ⟨nF, nS, hH⟩ := x2.laid_none a1.sr hD
  by_cases hlt : i < ds.length
  · refine .inr ⟨it.go i H2 sm hlt, fun H => ∃ F S acc vs, Ext F1 S1 (upd H1 D (.lst vs)) F S H ∧ SR K F S H ∧ RelDs K F acc vs ∧ lc2R v v1 ti1 te (unsetD ρ [v, v1]) (ds.drop (i + 1)) acc S fun ys S2 => Q' (.lst ys) S2, fun H' n => ⟨ds.length - (i + 1), by omega, rfl, hlt, n⟩, fun x H' y => ?_⟩
    obtain ⟨F3, d, x3, sr3, hd, rd⟩ := it.yld i x H2 H' F2 S2 x2.same sr2 y hlt
    have e : ds.drop i = d :: ds.drop (i + 1) := by
      rw [List.drop_eq_getElem_cons hlt]
      congr 1
      rw [List.getElem?_eq_getElem hlt] at hd
      exact Option.some.inj hd
    rw [e] at q2
    have x13 : Ext F1 S1 (upd H1 D (.lst vs)) F3 S2 H' := x2.trans x3
    have a3 : At K F0 F3 S2 H' ((unsetD ρ [v, v1]).set v (some d)) ((wipe σ [v, v1]).set v (some x)) :=
      ⟨a1.f0.trans ((Ext.laid hD).trans x13), sr3, ((a1.env.mono x13.same).wipe [v, v1]).set rd v⟩
    refine ⟨?_, ?_⟩
    · rw [wipe_set (by simp), wipe_wipe]
    · have q2' : ti1 ((unsetD ρ [v, v1]).set v (some d)) S2 fun es S1 => lcR v1 tdYes te ((unsetD ρ [v, v1]).set v (some d)) es acc S1 fun acc' S2 => lc2R v v1 ti1 te (unsetD ρ [v, v1]) (ds.drop (i + 1)) acc' S2 fun ys S2 => Q' (.lst ys) S2 := q2
      refine ⟨F3, S2, _, fun b S' => b = true ∧ S' = S2, a3, (⟨rfl, rfl⟩ : true = true ∧ S2 = S2), fun b H4 F4 S4 x4 sr4 ⟨e4, e5⟩ => ?_⟩
      subst e4 e5
      have a4 : At K F0 F4 S4 H4 ((unsetD ρ [v, v1]).set v (some d)) ((wipe σ [v, v1]).set v (some x)) := ⟨a3.f0.trans x4, sr4, a3.env.mono x4.same⟩
      have x14 := x13.trans x4
      have racc4 := RelDs.mono x4.same _ _ (RelDs.mono x3.same _ _ racc)
      refine iteT (IL.go a4 q2' fun J1 H5 F5 S5 es x5 a5 it1 q5 => ?_)
      have x15 := x14.trans x5
      have racc5 := RelDs.mono x5.same _ _ racc4
      refine ⟨fun j k H => k = es.length - j ∧ j ≤ es.length ∧ ∃ F S acc vs, Ext F1 S1 (upd H1 D (.lst vs)) F S H ∧ Same F5 F ∧ SR K F S H ∧ Ext F0.F F0.S F0.H F S H ∧ RelDs K F acc vs ∧ lcR v1 tdYes te ((unsetD ρ [v, v1]).set v (some d)) (es.drop j) acc S fun acc' S2 => lc2R v v1 ti1 te (unsetD ρ [v, v1]) (ds.drop (i + 1)) acc' S2 fun ys S2 => Q' (.lst ys) S2,
        ⟨es.length, by omega, Nat.zero_le _, F5, S5, acc, vs, x15, Same.refl _, a5.sr, a5.f0, racc5, q5⟩, ?_⟩
      rintro j k H6 ⟨rfl, hj, F6, S6, acc6, vs6, x6, s6, sr6, f6, racc6, q6⟩
      by_cases hlt2 : j < es.length
      · refine .inr ⟨it1.go j H6 (s6.trans sr6.fro) hlt2, fun H => ∃ F S acc vs, Ext F1 S1 (upd H1 D (.lst vs)) F S H ∧ Same F5 F ∧ SR K F S H ∧ Ext F0.F F0.S F0.H F S H ∧ RelDs K F acc vs ∧ lcR v1 tdYes te ((unsetD ρ [v, v1]).set v (some d)) (es.drop (j + 1)) acc S fun acc' S2 => lc2R v v1 ti1 te (unsetD ρ [v, v1]) (ds.drop (i + 1)) acc' S2 fun ys S2 => Q' (.lst ys) S2,
          fun H' n => ⟨es.length - (j + 1), by omega, rfl, hlt2, n⟩, fun z H7 y7 => ?_⟩
        obtain ⟨F7, d7, x7, sr7, hd7, rd7⟩ := it1.yld j z H6 H7 F6 S6 s6 sr6 y7 hlt2
        have e7 : es.drop j = d7 :: es.drop (j + 1) := by
          rw [List.drop_eq_getElem_cons hlt2]
          congr 1
          rw [List.getElem?_eq_getElem hlt2] at hd7
          exact Option.some.inj hd7
        rw [e7] at q6
        have x17 := x6.trans x7
        have a7 : At K F0 F7 S6 H7 (((unsetD ρ [v, v1]).set v (some d)).set v1 (some d7)) ((wipe ((wipe σ [v, v1]).set v (some x)) [v1]).set v1 (some z)) := by
          refine ⟨f6.trans x7, sr7, ?_⟩
          have h0 : (wipe ((wipe σ [v, v1]).set v (some x)) [v1]).set v1 (some z) = ((wipe σ [v, v1]).set v (some x)).set v1 (some z) := by
            show (((wipe σ [v, v1]).set v (some x)).set v1 none).set v1 (some z) = _
            rw [List.set_set]
          rw [h0]
          exact (a5.env.mono (s6.trans x7.same)).set rd7 v1
        refine ⟨?_, ?_⟩
        · rw [wipe_set (by simp), wipe_wipe]
        · refine ⟨F7, S6, _, fun b S' => b = true ∧ S' = S6, a7, (⟨rfl, rfl⟩ : true = true ∧ S6 = S6), fun b H8 F8 S8 x8 sr8 ⟨e8, e9⟩ => ?_⟩
          subst e8 e9
          have a8 : At K F0 F8 S8 H8 (((unsetD ρ [v, v1]).set v (some d)).set v1 (some d7)) ((wipe ((wipe σ [v, v1]).set v (some x)) [v1]).set v1 (some z)) := ⟨a7.f0.trans x8, sr8, a7.env.mono x8.same⟩
          have q6' : te (((unsetD ρ [v, v1]).set v (some d)).set v1 (some d7)) S8 fun y S2 => acc6.length < sizeLine ∧ lcR v1 tdYes te ((unsetD ρ [v, v1]).set v (some d)) (es.drop (j + 1)) (acc6 ++ [y]) S2 fun acc' S2 => lc2R v v1 ti1 te (unsetD ρ [v, v1]) (ds.drop (i + 1)) acc' S2 fun ys S2 => Q' (.lst ys) S2 := by
            have := q6
            dsimp only [lcR, tdYes] at this
            rw [if_pos rfl] at this
            exact this
          refine iteT (EL.go a8 q6' fun u H9 F9 S9 yd x9 a9 r9 ⟨hl, q9⟩ => ?_)
          have x19 := (x17.trans x8).trans x9
          obtain ⟨nF9, nS9, hH9⟩ := x19.laid_none a1.sr hD
          have racc9 := RelDs.mono x9.same _ _ (RelDs.mono x8.same _ _ (RelDs.mono x7.same _ _ racc6))
          refine ⟨vs6, hH9, by rw [racc9.length]; exact hl, ?_⟩
          have sr9 := a9.sr.re (o := .lst (vs6 ++ [u])) nF9 nS9
          have x19' := Ext.reset (K := K) (o2 := .lst (vs6 ++ [u])) x19
          exact ⟨F9, S9, acc6 ++ [yd], vs6 ++ [u], x19', ((s6.trans x7.same).trans x8.same).trans x9.same, sr9, (a1.f0.trans (Ext.laid hD)).trans x19', racc9.append (.cons r9 .nil), q9⟩
      · refine .inl ⟨it1.stop j H6 (s6.trans sr6.fro) (by omega), ?_⟩
        rw [List.drop_eq_nil_of_le (by omega)] at q6
        exact ⟨F6, S6, acc6, vs6, x6, sr6, racc6, q6⟩
  · refine .inl ⟨it.stop i H2 sm (by omega), ?_⟩
    rw [List.drop_eq_nil_of_le (by omega)] at q2
    obtain ⟨k1, k2⟩ := sr2.adoptF (ho := .lst vs) nF nS
    have k3 := x2.adoptF (ho := .lst vs) hD nF
    rw [upd_id hH] at k1 k3
    exact p.of (x1.trans k3) k1 (RelD.lst_i upd_same (RelDs.mono k2 _ _ racc)) q2
theorem de_lc2 {elt iter iter1 : Expr} {scope : Scope} {x y : Str} {xp yp : Pos} {v v1 : Nat} {ti ti1 : TDI} {te : TD} (hc : X.calm = true) (hN : X.N.Nodup) (hi : DI X F0 (.Name x xp) iter ti) (ok : BlkOk X.N X.env.scope scope [(x, v), (y, v1)])
    (hg : ∀ (s : Shared) (H : Hp) (C : Addr) (cl : List (Str × Addr)) (fp : List Addr), PG (X.blk s H scope (compEnvC scope cl C X.env) fp) (.Name x xp) (gName v))
    (hi1 : ∀ (s : Shared) (H : Hp) (C : Addr) (cl : List (Str × Addr)) (fp : List Addr), DI (X.blk s H scope (compEnvC scope cl C X.env) fp) F0 (.Name y yp) iter1 ti1)
    (hg1 : ∀ (s : Shared) (H : Hp) (C : Addr) (cl : List (Str × Addr)) (fp : List Addr), PG (X.blk s H scope (compEnvC scope cl C X.env) fp) (.Name y yp) (gName v1))
    (he : ∀ (s : Shared) (H : Hp) (C : Addr) (cl : List (Str × Addr)) (fp : List Addr), DE (X.blk s H scope (compEnvC scope cl C X.env) fp) F0 elt te) (hs : ∀ x, foldedSetIterable iter X.env x = pure x := by intro _; rfl) (hs1 : ∀ env x, foldedSetIterable iter1 env x = pure x := by intro _ _; rfl) :
    DE X F0 (.ListComp elt [⟨.Name x xp, iter, [], 0⟩, ⟨.Name y yp, iter1, [], 0⟩] scope pos) (tdLc2 ti v v1 ti1 te) :=
  PE.weak (pe_lc2 (own := [(x, v), (y, v1)]) (vs1 := [v1]) (wi := IL X.K F0 ti) (wi1 := IL X.K F0 ti1) (tt := TL X.K F0 tdYes) (tt1 := TL X.K F0 tdYes) (te := EL X.K F0 te) hc hN hi ok (by simp) hg (fun _ _ _ _ _ => dts_nil) hi1 hg1 (fun _ _ _ _ _ => dts_nil) he hs hs1) fun σ H Q h => lc2_go h
theorem ds_setLc2 (i : Nat) {z : Str} {zp : Pos} {elt iter iter1 : Expr} {scope : Scope} {x y : Str} {xp yp spos : Pos} {v v1 : Nat} {ti ti1 : TDI} {te : TD} (hc : X.calm = true) (hN : X.N.Nodup) (hy : X.N[i]? = some z) (hyl : X.env.scope.names.lookup z = some .local)
    (hsw : swapsWith (.ListComp elt [⟨.Name x xp, iter, [], 0⟩, ⟨.Name y yp, iter1, [], 0⟩] scope pos) (some (.Name z zp)) spos.line X.env = pure true) (hi : DI X F0 (.Name x xp) iter ti) (ok : BlkOk X.N X.env.scope scope [(x, v), (y, v1)])
    (hg : ∀ (s : Shared) (H : Hp) (C : Addr) (cl : List (Str × Addr)) (fp : List Addr), PG (X.blk s H scope (compEnvC scope cl C X.env) fp) (.Name x xp) (gName v))
    (hi1 : ∀ (s : Shared) (H : Hp) (C : Addr) (cl : List (Str × Addr)) (fp : List Addr), DI (X.blk s H scope (compEnvC scope cl C X.env) fp) F0 (.Name y yp) iter1 ti1)
    (hg1 : ∀ (s : Shared) (H : Hp) (C : Addr) (cl : List (Str × Addr)) (fp : List Addr), PG (X.blk s H scope (compEnvC scope cl C X.env) fp) (.Name y yp) (gName v1))
    (he : ∀ (s : Shared) (H : Hp) (C : Addr) (cl : List (Str × Addr)) (fp : List Addr), DE (X.blk s H scope (compEnvC scope cl C X.env) fp) F0 elt te) (hs : ∀ x, foldedSetIterable iter X.env x = pure x := by intro _; rfl) (hs1 : ∀ env x, foldedSetIterable iter1 env x = pure x := by intro _ _; rfl) :
    DS X F0 (.Assign [.Name z zp] (.ListComp elt [⟨.Name x xp, iter, [], 0⟩, ⟨.Name y yp, iter1, [], 0⟩] scope pos) spos) (tdAsg (tdLc2 ti v v1 ti1 te) (gdName i)) :=
  PS.weak (ps_setLc2 (own := [(x, v), (y, v1)]) (vs1 := [v1]) (wi := IL X.K F0 ti) (wi1 := IL X.K F0 ti1) (tt := TL X.K F0 tdYes) (tt1 := TL X.K F0 tdYes) (te := EL X.K F0 te) hc hN hy hyl hsw hi ok (by simp) hg (fun _ _ _ _ _ => dts_nil) hi1 hg1 (fun _ _ _ _ _ => dts_nil) he hs hs1) fun D σ H ⟨F, S, ρ, D', a, h, p⟩ => by
    show tLc2 _ _ _ _ _ _ _ _ _ σ H _
    exact lc2_go (EL.go a h fun w H1 F1 S1 d x1 a1 r1 q1 => p.1 _ _ _ _ _ x1 a1.sr (a1.env.set r1 i) q1)
end
end DL
namespace DL
open PySem PySem.Spec PyProof.Rows L2
/-- a tuple of bools -/
abbrev bt (r : List Bool) : DL.D := .tup (r.map DL.D.bl)
abbrev bp (r : List Bool) : PyData := .tuple (r.map PyData.bool)
theorem reads_bools {K : PySem.W.Frag} {F : Hp} {h : Heap} : ∀ {r : List Bool} {vs : List V} {us : List Value}, RelDs K F (r.map DL.D.bl) vs → Vals vs us → ReadsAll h us (r.map PyData.bool) []
  | [], vs, us, r, v => by
    obtain rfl := r.nil_inv
    cases v
    exact .nil
  | b :: r, vs, us, h, v => by
    obtain ⟨x, q, rfl, h1, h2⟩ := h.cons_inv
    obtain rfl := h1.bl_e
    cases v with
    | cons v1 v2 =>
      cases v1
      exact .cons (.bool b) (reads_bools h2 v2)
theorem alike_bools : ∀ r q : List Bool, PySem.W.alikeAll (r.map PyData.bool) (q.map PyData.bool) = true
  | [], _ => by simp [PySem.W.alikeAll]
  | _ :: _, [] => by simp [PySem.W.alikeAll]
  | b :: r, c :: q => by
    show PySem.W.alikeAll (.bool b :: r.map .bool) (.bool c :: q.map .bool) = true
    rw [PySem.W.alikeAll, alike_bools r q]
    simp [PySem.W.alike]
theorem depth_bools : ∀ r : List Bool, PyData.depthAll (r.map PyData.bool) = 0
  | [] => by simp [PyData.depthAll]
  | b :: r => by
    show PyData.depthAll (.bool b :: r.map .bool) = 0
    rw [PyData.depthAll, depth_bools r]
    simp [PyData.depth]
theorem keys_split {K : PySem.W.Frag} {F : Hp} : ∀ {kvs : List (NestedKey × DL.D × DL.D)} {zs : XN} {rs : List (List Bool)}, RelN K F kvs zs → kvs.map (·.2.1) = rs.map bt →
    ∃ bs : List (List Bool × Addr), bs.map (·.1) = rs ∧ bs.map (·.2) = zs.map (·.2.1) ∧ ∀ p ∈ bs, RelD K F (bt p.1) (.ref p.2)
  | _, _, [], .nil, _ => ⟨[], rfl, rfl, fun p hp => nomatch hp⟩
  | _, _, _ :: _, .nil, e => by simp at e
  | _ :: _, _ :: _, [], .cons h t, e => by simp at e
  | p :: _, z :: _, r :: rs, .cons h t, e => by
    rw [List.map_cons, List.map_cons] at e
    injection e with e1 e2
    obtain ⟨bs, h1, h2, h3⟩ := keys_split t e2
    refine ⟨(r, z.2.1) :: bs, by rw [List.map_cons, h1], by rw [List.map_cons, h2]; rfl, fun q hq => ?_⟩
    rcases List.mem_cons.mp hq with e | hq
    · subst e
      rw [← e1]
      exact h.2.2.1
    · exact h3 q hq
theorem kn_addr : ∀ {xs : XN} {ys : YN}, KN xs ys → xs.map (·.2.1) = ys.map (·.2.1)
  | _, _, .nil => rfl
  | _ :: _, _ :: _, .cons h t => by rw [List.map_cons, List.map_cons, h.2.1, kn_addr t]
theorem rel_bts {K : PySem.W.Frag} {F : Hp} : ∀ {bs : List (List Bool × Addr)}, (∀ p ∈ bs, RelD K F (bt p.1) (.ref p.2)) → RelDs K F (bs.map fun p => bt p.1) (bs.map fun p => V.ref p.2)
  | [], _ => .nil
  | p :: bs, h => .cons (h p List.mem_cons_self) (rel_bts fun q hq => h q (List.mem_cons_of_mem _ hq))
theorem vals_rf : ∀ bs : List (List Bool × Addr), Vals (bs.map fun p => V.ref p.2) (bs.map fun p => Value.ref p.2)
  | [] => .nil
  | _ :: r => .cons rfl (vals_rf r)
theorem each_rf : ∀ bs : List (List Bool × Addr), PySem.W.EachIs (fun (v : Value) (p : List Bool × Addr) => v = .ref p.2) (bs.map fun p => Value.ref p.2) bs
  | [] => .nil
  | _ :: r => .cons rfl (each_rf r)
theorem each_out : ∀ {out : List Value} {bs : List (List Bool × Addr)}, PySem.W.EachIs (fun (v : Value) (p : List Bool × Addr) => v = .ref p.2) out bs → out = bs.map fun p => Value.ref p.2
  | _, _, .nil => rfl
  | _, _, .cons h t => by rw [List.map_cons, h, ← each_out t]
section
variable {X : Cx} {w : World}
def gSortN (w : World) : DCall := fun S ds Q => ∃ a kvs rs, ds = [.ref a] ∧ S a = some (.dn w a kvs) ∧ kvs.map (·.2.1) = rs.map bt ∧ (∀ r ∈ rs, r ≠ []) ∧ rs.length ≤ 100000 ∧ ∀ out : List (List Bool), out.Perm rs → Q (.lst (out.map bt)) S
theorem oc_sortN (hw : X.w = w) (hu : X.A.units + 65 < cLine) (hcalm : X.calm = true) : CallR X (.builtin "sorted") (CL X.K (gSortN w)) := by
  subst hw
  intro pins s σ H xs us Q I r ⟨F, S, ds, Q', sr, rd, ⟨a, kvs, rs, e1, e2, e3, e4, e5, q⟩, p⟩
  subst e1
  obtain ⟨v, rfl, rv⟩ := rds1 rd
  obtain rfl := rv.ref_e
  obtain ⟨u, eu, rx⟩ := vals1 r
  subst eu
  cases rx
  obtain ⟨zs, h1, h2⟩ := sr.nat e2
  obtain ⟨z, hd, ys, rel, dd⟩ := nat_of I h1
  obtain ⟨bs, b1, b2, b3⟩ := keys_split h2 e3
  have hbl : bs.length = rs.length := by rw [← b1, List.length_map]
  obtain ⟨o, es, ep, ho, hc, hdat, he, his, hn⟩ := dd
  have hes : es.size = ys.length := size_of_entries he
  have hzy := kn_addr rel
  have hyb : ys.length = bs.length := by
    have := congrArg List.length (b2.trans hzy)
    simpa using this.symm
  have hline : (100000 : Nat) ≤ sizeLine := sz5 (by decide)
  refine Calls.call_function_entry kind_sorted plain_sorted entry_sorted (args_sorted1 _) ?_
  unfold Builtin.«sorted»
  refine wpAny_bind (m := checkCount "sorted" 1 1 _) (wpAny_pure ?_)
  refine wpAny_bind (PySem.W.kdu_collect (A := X.A.in1) (kdl_raw (prog := X.prog) (w := X.w) hd hc hdat) (I.ok.hd hcalm) ho (by omega) fun h' tk acc hk hacc => ?_)
  have hac : acc.toList = bs.map fun p => Value.ref p.2 := by
    refine List.ext_getElem? fun j => ?_
    have h0 : (bs.map fun p => Value.ref p.2) = ys.map fun y => Value.ref y.2.1 := by
      have e9 := congrArg (List.map Value.ref) (b2.trans hzy)
      rw [List.map_map, List.map_map] at e9
      exact e9
    rw [h0]
    cases q1 : acc.toList[j]? with
    | none =>
      have g1 := List.getElem?_eq_none_iff.mp q1
      refine (List.getElem?_eq_none_iff.mpr ?_).symm
      rw [List.length_map, ← hes, ← hacc.1]
      simpa using g1
    | some v =>
      obtain ⟨en, g1, g2⟩ := hacc.2 j v (by rw [← Array.getElem?_toList]; exact q1)
      rw [entry_at he j] at g1
      obtain ⟨y, g3, g4⟩ := Option.map_eq_some_iff.mp g1
      rw [List.getElem?_map, g3, g2, ← g4]
      rfl
  have I1 : Inv X pins σ H { s with heap := h', toks := tk } := I.kept hk
  have hal : acc.toList.length = bs.length := by rw [hac, List.length_map]
  refine wpAny_bind (wpAny_newList ?_ (by rw [hal]; omega))
  have hoL : (h'.push (seqObj "list" acc.toList.toArray 0)).get? h'.objs.size = some (seqObj "list" acc.toList.toArray 0) := Heap.get?_push_size _ rfl
  have I2 : Inv X pins σ H { s with heap := h'.push (seqObj "list" acc.toList.toArray 0), toks := tk } := I1.kept (t' := tk) fun b o e => Heap.get?_push_of_some _ e
  have e6 : PySem.W.EachIs (fun (v : Value) (p : List Bool × Addr) => v = .ref p.2) acc.toList bs := by rw [hac]; exact each_rf bs
  have er : PySem.W.EachIs (fun v b => ∃ as, Reads (h'.push (seqObj "list" acc.toList.toArray 0)) v (bp b.1) as ∧ h'.objs.size ∉ as) acc.toList bs := by
    refine PySem.W.EachIs.of_zip hal fun pr hpr => ?_
    have g1 := e6.zip pr hpr
    have g2 := b3 pr.2 (List.of_mem_zip hpr).2
    obtain ⟨c, vs, g3, g4, g5⟩ := g2.tup_e
    cases g3
    obtain ⟨its, rv, ⟨o2, k1, k2, n2, k3⟩, _⟩ := I2.tuple (seqT sr.fro g4)
    rw [g1]
    exact ⟨[], .tuple k1 k2 k3 (by simpa using reads_bools g5 rv), fun hm => nomatch hm⟩
  have hmono := PySem.W.list_sort_data (prog := X.prog) (w := X.w) (A := X.A.in1) (E := X.xe) (s := { s with heap := h'.push (seqObj "list" acc.toList.toArray 0), toks := tk }) (enc := fun b => bp b.1)
    (Q := fun _ s' => EP X pins σ Q (.ref h'.objs.size) s') hoL e6 er (PySem.W.AllAlike.of (enc := fun b : List Bool × Addr => bp b.1) fun b b' => show PySem.W.alike (bp b.1) (bp b'.1) = true from by unfold bp; rw [PySem.W.alike]; exact alike_bools b.1 b'.1) (.inl fun d hd => ?_) (by omega) (fun b hb => ?_) fun out ho2 eo => ?_
  · refine wpAny_bind (wpAny_holding (wpAny_mono hmono (fun _ s' x => ?_) fun _ _ e => e))
    exact wpAny_pure ⟨_, rfl, x⟩
  · obtain ⟨b, hb, rfl⟩ := List.mem_map.mp hd
    have hne : b.1 ≠ [] := e4 b.1 (by rw [← b1]; exact List.mem_map_of_mem hb)
    cases q1 : b.1 with
    | nil => exact absurd q1 hne
    | cons x t => exact ⟨.bool x, t.map PyData.bool, rfl⟩
  · have hdp : (bp b.1).depth = 1 := by
      unfold bp
      rw [PyData.depth, depth_bools]
    have h1' : X.A.in1.units = X.A.units + 1 := Around.in1_units _
    rw [hdp, h1']
    omega
  · have eout := each_out eo
    have hperm := List.mergeSort_perm bs (PySem.W.dataLe false fun b : List Bool × Addr => bp b.1)
    generalize bs.mergeSort (PySem.W.dataLe false fun b : List Bool × Addr => bp b.1) = obs at eout hperm
    subst eout
    obtain ⟨e', he'⟩ := sortedHeap_at (vs := acc.toList) (out := (obs.map fun p => Value.ref p.2).toArray) hoL
    have hob : obs.length = bs.length := hperm.length_eq
    have nH : H h'.objs.size = none := I1.hok.fresh (Nat.le_refl _)
    refine ⟨.ref h'.objs.size, upd H h'.objs.size (.lst (obs.map fun p => V.ref p.2)), I1.laid (t' := tk) (fun b u e => ?_) (Nat.le_refl _)
      (show ObjOk X.prog X.w _ _ _ (.lst (obs.map fun p => V.ref p.2)) from ⟨by rw [List.length_map]; omega, obs.map fun p => Value.ref p.2, e', vals_rf obs, he'⟩), rfl, ?_⟩
    · have hb : b < h'.objs.size := Heap.lt_size e
      rw [sortedHeap_old (Nat.ne_of_lt hb) (by rw [size_push']; exact Nat.lt_succ_of_lt hb)]
      exact Heap.get?_push_of_some _ e
    · have hrel := rel_bts (K := X.K) (F := F) (bs := obs) fun p hp => b3 p (hperm.mem_iff.mp hp)
      have hq := q (obs.map (·.1)) (by rw [← b1]; exact hperm.map _)
      rw [List.map_map] at hq
      exact p.of (sr.ext_frz nH) (sr.frz nH) (.lst_i upd_same (RelDs.mono (sr.same_frz nH) _ _ hrel)) hq
end
end DL
namespace DLZ
open PySem
open PySem.Sem (wp)
open PySem.W (kdx_alive)
/-- an iterator over a list or a tuple, as far as zip asks -/
structure Nx (prog : Program) (w : World) (it l : Addr) (xs : Array Value) (St : Heap → Nat → Prop) : Prop where
  item : ∀ (A : Around) (E : Value → Shared → Prop) (s : Shared) (k : Nat) (x : Value) (Q : Value → Shared → Prop), St s.heap k → xs[k]? = some x → (∀ h', St h' (k + 1) → Heap.SameBut it s.heap h' → Q x { s with heap := h' }) →
    wpAny (model prog w) A (Builtin.SmallTypes.nextOf (.ref it)) Q E s
  fin : ∀ (A : Around) (E : Value → Shared → Prop) (s : Shared) (k : Nat) (Q : Value → Shared → Prop), A.handled = none → St s.heap k → xs[k]? = none →
    (∀ h' e, Heap.ExtBut it s.heap h' → (∃ o, h'.get? e = some o ∧ o.cls = .type "StopIteration") → E (.ref e) { s with heap := h' }) → wpAny (model prog w) A (Builtin.SmallTypes.nextOf (.ref it)) Q E s
  keep : ∀ h h' k, St h k → (∀ o, h.get? it = some o → h'.get? it = some o) → (∀ o, h.get? l = some o → h'.get? l = some o) → St h' k
  there : ∀ h k, St h k → (∃ o, h.get? it = some o) ∧ ∃ o, h.get? l = some o
section
variable {prog : Program} {w : World}
theorem nx_list (it l : Addr) (hne : l ≠ it) (xs : Array Value) : Nx prog w it l xs (fun h k => h.IsListIter it l k ∧ h.IsList l xs) where
  item := fun A E s k x Q st hx hQ => wpAny_nextOf_list_item st.1 st.2 hx fun h' h1 hs => hQ h' ⟨h1, st.2.extBut hs.extBut hne⟩ hs
  fin := fun A E s k Q hh st hx hE => wpAny_nextOf_list_end hh st.1 st.2 hx hE
  keep := fun h h' k st h1 h2 => ⟨st.1.at h1, st.2.at h2⟩
  there := fun h k st => by
    obtain ⟨⟨o1, h1, _⟩, ⟨o2, h2, _⟩⟩ := st
    exact ⟨⟨_, h1⟩, ⟨_, h2⟩⟩
theorem nx_tuple (it l : Addr) (hne : l ≠ it) (xs : Array Value) : Nx prog w it l xs (fun h k => h.IsTupleIter it l k ∧ h.IsTuple l xs) where
  item := fun A E s k x Q st hx hQ => RZ.nextOf_tuple_item st.1 st.2 hx fun h' h1 hs => hQ h' ⟨h1, st.2.extBut hs.extBut hne⟩ hs
  fin := fun A E s k Q hh st hx hE => RZ.nextOf_tuple_end hh st.1 st.2 hx hE
  keep := fun h h' k st h1 h2 => ⟨st.1.at h1, st.2.at h2⟩
  there := fun h k st => by
    obtain ⟨⟨o1, h1, _⟩, ⟨o2, h2, _⟩⟩ := st
    exact ⟨⟨_, h1⟩, ⟨_, h2⟩⟩
theorem Nx.ext {it l : Addr} {xs : Array Value} {St : Heap → Nat → Prop} (N : Nx prog w it l xs St) {h h' : Heap} {k : Nat} {b : Addr} (st : St h k) (e : Heap.ExtBut b h h') (h1 : it ≠ b) (h2 : l ≠ b) : St h' k :=
  N.keep _ _ _ st (fun o q => e _ _ h1 q) fun o q => e _ _ h2 q
end
section
variable {prog : Program} {w : World} {A : Around} {E : Value → Shared → Prop} {s : Shared} {z TI TO T i1 i2 l1 l2 : Addr} {k : Nat} {xs ys : Array Value} {x y a b : Value} {St1 St2 : Heap → Nat → Prop} {f : Bool} {oT : Obj}
theorem next_item {Q : Value → Shared → Prop} (N1 : Nx prog w i1 l1 xs St1) (N2 : Nx prog w i2 l2 ys St2) (D : ZipApart z TI TO i1 i2 l1 l2)
    (hz : IsZip s.heap z TI TO .none) (hTI : IsPair s.heap TI (.ref i1) (.ref i2)) (hTO : IsPair s.heap TO a b) (h1 : St1 s.heap k) (h2 : St2 s.heap k) (hx : xs[k]? = some x) (hy : ys[k]? = some y)
    (hQ : ∀ h', IsZip h' z TI TO (rawInt s.heap.objs.size) → IsPair h' TO x y → St1 h' (k + 1) → St2 h' (k + 1) → IsPair h' s.heap.objs.size x y → h'.objs.size = s.heap.objs.size + 1 →
      (∀ c o, c ≠ z → c ≠ TO → c ≠ i1 → c ≠ i2 → s.heap.get? c = some o → h'.get? c = some o) → Q (.ref s.heap.objs.size) { s with heap := h' }) :
    wpAny (model prog w) A (Builtin.«zip.__next__» ⟨[.ref z], []⟩) (fun fin s' => ∃ v, fin = .done (.ret v) ∧ Q v s') E s := by
  show wpAny _ _ (field (.ref z) 2 >>= _) _ _ _
  refine wpAny_bind (wpAny_field hz rfl (x := .bool false) rfl ?_)
  show wpAny _ _ (field (.ref z) 3 >>= _) _ _ _
  refine wpAny_bind (wpAny_field hz rfl (x := .ref TI) rfl ?_)
  refine wpAny_bind (wpAny_seqItems hTI rfl ?_)
  show wpAny _ _ (Builtin.SmallTypes.ownedTupleIsFree (.ref z) >>= _) _ _ _
  refine wpAny_bind ?_
  unfold Builtin.SmallTypes.ownedTupleIsFree
  refine wpAny_bind (wpAny_field hz rfl (x := .none) rfl (wpAny_pure ?_))
  simp only [if_true]
  refine wpAny_bind (wpAny_rule ?_)
  refine wpAny_bind (wpAny_field hz rfl (x := .ref TO) rfl ?_)
  refine wpAny_bind (wpAny_setField_rec hz (by simp) fun g1 hz1 s1 => ?_)
  replace hz1 : IsZip g1 z TI TO .ellipsis := hz1
  refine wpAny_bind ?_
  simp only [List.zipIdx_cons, List.zipIdx_nil, List.forIn_cons, List.forIn_nil]
  refine wpAny_bind (wpAny_bind (wpAny_onRaise ?_))
  show wpAny _ _ (Builtin.SmallTypes.nextOf (.ref i1) >>= _) _ _ _
  refine wpAny_bind (N1.item _ _ { s with heap := g1 } k x _ (N1.ext h1 s1.extBut D.i1z D.l1z) hx fun g2 n1 s2 => wpAny_pure ?_)
  have hTO2 : IsPair g2 TO a b := s2.extBut _ _ D.TOi1 (s1.extBut _ _ D.TOz hTO)
  refine wpAny_bind (wpAny_seqItems hTO2 rfl ?_)
  refine wpAny_bind (wpAny_updateSeq_pair hTO2 fun g3 hTO3 s3 => ?_)
  replace hTO3 : IsPair g3 TO x b := hTO3
  refine wpAny_bind (wpAny_letGo (wpAny_pure ?_))
  refine wpAny_bind (wpAny_bind (wpAny_onRaise ?_))
  show wpAny _ _ (Builtin.SmallTypes.nextOf (.ref i2) >>= _) _ _ _
  refine wpAny_bind (N2.item _ _ { s with heap := g3 } k y _ (N2.ext (N2.ext (N2.ext h2 s1.extBut D.i2z D.l2z) s2.extBut D.i12.symm D.l2i1) s3.extBut D.TOi2.symm D.l2TO) hy fun g4 n2 s4 => wpAny_pure ?_)
  have hTO4 : IsPair g4 TO x b := s4.extBut _ _ D.TOi2 hTO3
  refine wpAny_bind (wpAny_seqItems hTO4 rfl ?_)
  refine wpAny_bind (wpAny_updateSeq_pair hTO4 fun g5 hTO5 s5 => ?_)
  replace hTO5 : IsPair g5 TO x y := hTO5
  refine wpAny_bind (wpAny_letGo (wpAny_pure (wpAny_pure ?_)))
  refine wpAny_bind (wpAny_seqItems hTO5 rfl ?_)
  refine wpAny_bind (wpAny_newTuple ?_)
  have hsz : g5.objs.size = s.heap.objs.size := by rw [s5.1, s4.1, s3.1, s2.1, s1.1]
  have hz5 : IsZip g5 z TI TO .ellipsis := s5.extBut _ _ D.TOz.symm (s4.extBut _ _ D.i2z.symm (s3.extBut _ _ D.TOz.symm (s2.extBut _ _ D.i1z.symm hz1)))
  have k5 : ∀ c o, c ≠ z → c ≠ TO → c ≠ i1 → c ≠ i2 → s.heap.get? c = some o → g5.get? c = some o := fun c o c1 c2 c3 c4 e =>
    s5.extBut _ _ c2 (s4.extBut _ _ c4 (s3.extBut _ _ c2 (s2.extBut _ _ c3 (s1.extBut _ _ c1 e))))
  have m1 : St1 g5 (k + 1) := N1.ext (N1.ext (N1.ext n1 s3.extBut D.TOi1.symm D.l1TO) s4.extBut D.i12 D.l1i2) s5.extBut D.TOi1.symm D.l1TO
  have m2 : St2 g5 (k + 1) := N2.ext n2 s5.extBut D.TOi2.symm D.l2TO
  have hzlt : z < g5.objs.size := Heap.lt_size hz5
  show wpAny _ _ (Builtin.SmallTypes.ownedTupleHandOut (.ref z) (.ref g5.objs.size) >>= _) _ _ _
  refine wpAny_bind ?_
  unfold Builtin.SmallTypes.ownedTupleHandOut
  have hz6 : IsZip (g5.push { cls := .type "tuple", data := .seq #[x, y] }) z TI TO .ellipsis := Heap.get?_push_of_some _ hz5
  refine wpAny_bind (wpAny_setField_rec hz6 (by simp) fun g7 hz7 s7 => ?_)
  replace hz7 : IsZip g7 z TI TO (rawInt g5.objs.size) := hz7
  refine wpAny_setField_rec hz7 (by simp) fun g8 hz8 s8 => ?_
  replace hz8 : IsZip g8 z TI TO (rawInt g5.objs.size) := hz8
  have up : ∀ c o, c ≠ z → g5.get? c = some o → g8.get? c = some o := fun c o c1 e => s8.extBut _ _ c1 (s7.extBut _ _ c1 (Heap.get?_push_of_some _ e))
  have hT8 : IsPair g8 g5.objs.size x y := s8.extBut _ _ (Nat.ne_of_gt hzlt) (s7.extBut _ _ (Nat.ne_of_gt hzlt) (Heap.get?_push_size _ rfl))
  have z8 : g8.objs.size = g5.objs.size + 1 := by rw [s8.1, s7.1, Heap.size_push]
  rw [hsz] at hz8 hT8 z8
  refine wpAny_pure ⟨_, rfl, ?_⟩
  show Q (.ref g5.objs.size) _
  rw [hsz]
  exact hQ g8 hz8 (up _ _ D.TOz hTO5) (N1.keep _ _ _ m1 (fun o e => up _ o D.i1z e) fun o e => up _ o D.l1z e) (N2.keep _ _ _ m2 (fun o e => up _ o D.i2z e) fun o e => up _ o D.l2z e) hT8 z8 fun c o c1 c2 c3 c4 e => up c o c1 (k5 c o c1 c2 c3 c4 e)
theorem next_end {Q : Fin → Shared → Prop} (hh : A.handled = none) (N1 : Nx prog w i1 l1 xs St1) (N2 : Nx prog w i2 l2 ys St2) (D : ZipApart z TI TO i1 i2 l1 l2)
    (hz : IsZip s.heap z TI TO .none) (hTI : IsPair s.heap TI (.ref i1) (.ref i2)) (hTO : IsPair s.heap TO a b) (h1 : St1 s.heap k) (h2 : St2 s.heap k) (hend : xs[k]? = none ∨ ys[k]? = none)
    (hE : ∀ h' e, (∀ c o, c ≠ z → c ≠ TO → c ≠ i1 → c ≠ i2 → s.heap.get? c = some o → h'.get? c = some o) → (∃ o, h'.get? e = some o ∧ o.cls = .type "StopIteration") → E (.ref e) { s with heap := h' }) :
    wpAny (model prog w) A (Builtin.«zip.__next__» ⟨[.ref z], []⟩) Q E s := by
  show wpAny _ _ (field (.ref z) 2 >>= _) _ _ _
  refine wpAny_bind (wpAny_field hz rfl (x := .bool false) rfl ?_)
  show wpAny _ _ (field (.ref z) 3 >>= _) _ _ _
  refine wpAny_bind (wpAny_field hz rfl (x := .ref TI) rfl ?_)
  refine wpAny_bind (wpAny_seqItems hTI rfl ?_)
  show wpAny _ _ (Builtin.SmallTypes.ownedTupleIsFree (.ref z) >>= _) _ _ _
  refine wpAny_bind ?_
  unfold Builtin.SmallTypes.ownedTupleIsFree
  refine wpAny_bind (wpAny_field hz rfl (x := .none) rfl (wpAny_pure ?_))
  simp only [if_true]
  refine wpAny_bind (wpAny_rule ?_)
  refine wpAny_bind (wpAny_field hz rfl (x := .ref TO) rfl ?_)
  refine wpAny_bind (wpAny_setField_rec hz (by simp) fun g1 hz1 s1 => ?_)
  replace hz1 : IsZip g1 z TI TO .ellipsis := hz1
  refine wpAny_bind ?_
  simp only [List.zipIdx_cons, List.zipIdx_nil, List.forIn_cons, List.forIn_nil]
  refine wpAny_bind (wpAny_bind (wpAny_onRaise ?_))
  show wpAny _ _ (Builtin.SmallTypes.nextOf (.ref i1) >>= _) _ _ _
  cases hx : xs[k]? with
  | none =>
    refine wpAny_bind (N1.fin _ _ { s with heap := g1 } k _ hh (N1.ext h1 s1.extBut D.i1z D.l1z) hx fun g2 e s2 he => ?_)
    obtain ⟨oe, hoe, hce⟩ := he
    have hz2 : IsZip g2 z TI TO .ellipsis := s2 _ _ D.i1z.symm hz1
    have hez : e ≠ z := fun q => by subst q; rw [hz2] at hoe; cases hoe; simp at hce
    refine wpAny_setField_rec hz2 (by simp) fun g3 _ s3 => hE g3 e (fun c o c1 _ c3 _ q => s3.extBut _ _ c1 (s2 _ _ c3 (s1.extBut _ _ c1 q))) ⟨oe, s3.extBut _ _ hez hoe, hce⟩
  | some x =>
    have hy : ys[k]? = none := by rcases hend with h | h; rw [hx] at h; cases h; exact h
    refine wpAny_bind (N1.item _ _ { s with heap := g1 } k x _ (N1.ext h1 s1.extBut D.i1z D.l1z) hx fun g2 n1 s2 => wpAny_pure ?_)
    have hTO2 : IsPair g2 TO a b := s2.extBut _ _ D.TOi1 (s1.extBut _ _ D.TOz hTO)
    refine wpAny_bind (wpAny_seqItems hTO2 rfl ?_)
    refine wpAny_bind (wpAny_updateSeq_pair hTO2 fun g3 hTO3 s3 => ?_)
    refine wpAny_bind (wpAny_letGo (wpAny_pure ?_))
    refine wpAny_bind (wpAny_bind (wpAny_onRaise ?_))
    show wpAny _ _ (Builtin.SmallTypes.nextOf (.ref i2) >>= _) _ _ _
    refine wpAny_bind (N2.fin _ _ { s with heap := g3 } k _ hh (N2.ext (N2.ext (N2.ext h2 s1.extBut D.i2z D.l2z) s2.extBut D.i12.symm D.l2i1) s3.extBut D.TOi2.symm D.l2TO) hy fun g4 e s4 he => ?_)
    obtain ⟨oe, hoe, hce⟩ := he
    have hz4 : IsZip g4 z TI TO .ellipsis := s4 _ _ D.i2z.symm (s3.extBut _ _ D.TOz.symm (s2.extBut _ _ D.i1z.symm hz1))
    have hez : e ≠ z := fun q => by subst q; rw [hz4] at hoe; cases hoe; simp at hce
    refine wpAny_setField_rec hz4 (by simp) fun g5 _ s5 => hE g5 e (fun c o c1 c2 c3 c4 q => s5.extBut _ _ c1 (s4 _ _ c4 (s3.extBut _ _ c2 (s2.extBut _ _ c3 (s1.extBut _ _ c1 q))))) ⟨oe, s5.extBut _ _ hez hoe, hce⟩
theorem next_item_held {Q : Value → Shared → Prop} (N1 : Nx prog w i1 l1 xs St1) (N2 : Nx prog w i2 l2 ys St2) (D : ZipApart z TI TO i1 i2 l1 l2)
    (hz : IsZipHeld s.heap z TI TO T f) (hT : s.heap.get? T = some oT) (hTI : IsPair s.heap TI (.ref i1) (.ref i2)) (h1 : St1 s.heap k) (h2 : St2 s.heap k) (hx : xs[k]? = some x) (hy : ys[k]? = some y)
    (hQ : ∀ h', IsZipHeld h' z TI TO T true → St1 h' (k + 1) → St2 h' (k + 1) → IsPair h' s.heap.objs.size x y → h'.objs.size = s.heap.objs.size + 1 →
      (∀ c o, c ≠ z → c ≠ i1 → c ≠ i2 → s.heap.get? c = some o → h'.get? c = some o) → Q (.ref s.heap.objs.size) { s with heap := h' }) :
    wpAny (model prog w) A (Builtin.«zip.__next__» ⟨[.ref z], []⟩) (fun fin s' => ∃ v, fin = .done (.ret v) ∧ Q v s') E s := by
  show wpAny _ _ (field (.ref z) 2 >>= _) _ _ _
  refine wpAny_bind (wpAny_field hz rfl (x := .bool false) rfl ?_)
  show wpAny _ _ (field (.ref z) 3 >>= _) _ _ _
  refine wpAny_bind (wpAny_field hz rfl (x := .ref TI) rfl ?_)
  refine wpAny_bind (wpAny_seqItems hTI rfl ?_)
  show wpAny _ _ (Builtin.SmallTypes.ownedTupleIsFree (.ref z) >>= _) _ _ _
  refine wpAny_bind (wpAny_tupleHeld_zip hz hT fun g1 hz1 s1 => ?_)
  simp only [Bool.false_eq_true, if_false]
  refine wpAny_bind ?_
  rw [← Array.forIn_toList]
  simp only [List.forIn_cons, List.forIn_nil]
  refine wpAny_bind (wpAny_bind (wpAny_holding ?_))
  show wpAny _ _ (Builtin.SmallTypes.nextOf (.ref i1) >>= _) _ _ _
  refine wpAny_bind (N1.item _ _ { s with heap := g1 } k x _ (N1.ext h1 s1.extBut D.i1z D.l1z) hx fun g2 n1 s2 => wpAny_pure ?_)
  refine wpAny_pure ?_
  refine wpAny_bind (wpAny_bind (wpAny_holding ?_))
  show wpAny _ _ (Builtin.SmallTypes.nextOf (.ref i2) >>= _) _ _ _
  refine wpAny_bind (N2.item _ _ { s with heap := g2 } k y _ (N2.ext (N2.ext h2 s1.extBut D.i2z D.l2z) s2.extBut D.i12.symm D.l2i1) hy fun g3 n2 s3 => wpAny_pure ?_)
  refine wpAny_pure (wpAny_pure ?_)
  show wpAny _ _ (newTuple [x, y] >>= _) _ _ _
  refine wpAny_bind (wpAny_newTuple ?_)
  have hsz : g3.objs.size = s.heap.objs.size := by rw [s3.1, s2.1, s1.1]
  have hz3 : IsZipHeld g3 z TI TO T true := s3.extBut _ _ D.i2z.symm (s2.extBut _ _ D.i1z.symm hz1)
  have hk : ∀ c o, c ≠ z → c ≠ i1 → c ≠ i2 → s.heap.get? c = some o → g3.get? c = some o := fun c o c1 c2 c3 e => s3.extBut _ _ c3 (s2.extBut _ _ c2 (s1.extBut _ _ c1 e))
  have m1 : St1 g3 (k + 1) := N1.ext n1 s3.extBut D.i12 D.l1i2
  refine wpAny_pure ⟨_, rfl, ?_⟩
  show Q (.ref g3.objs.size) _
  have hp : IsPair (g3.push { cls := .type "tuple", data := .seq #[x, y] }) g3.objs.size x y := Heap.get?_push_size _ rfl
  have hz4 : (g3.push { cls := .type "tuple", data := .seq #[x, y] }).objs.size = g3.objs.size + 1 := Heap.size_push ..
  rw [hsz] at hp hz4 ⊢
  exact hQ _ (Heap.get?_push_of_some _ hz3) (N1.keep _ _ _ m1 (fun o e => Heap.get?_push_of_some _ e) fun o e => Heap.get?_push_of_some _ e) (N2.keep _ _ _ n2 (fun o e => Heap.get?_push_of_some _ e) fun o e => Heap.get?_push_of_some _ e) hp hz4 fun c o c1 c2 c3 e => Heap.get?_push_of_some _ (hk c o c1 c2 c3 e)
theorem next_end_held {Q : Fin → Shared → Prop} (hh : A.handled = none) (N1 : Nx prog w i1 l1 xs St1) (N2 : Nx prog w i2 l2 ys St2) (D : ZipApart z TI TO i1 i2 l1 l2)
    (hz : IsZipHeld s.heap z TI TO T f) (hT : s.heap.get? T = some oT) (hTI : IsPair s.heap TI (.ref i1) (.ref i2)) (h1 : St1 s.heap k) (h2 : St2 s.heap k) (hend : xs[k]? = none ∨ ys[k]? = none)
    (hE : ∀ h' e, (∀ c o, c ≠ z → c ≠ i1 → c ≠ i2 → s.heap.get? c = some o → h'.get? c = some o) → (∃ o, h'.get? e = some o ∧ o.cls = .type "StopIteration") → E (.ref e) { s with heap := h' }) :
    wpAny (model prog w) A (Builtin.«zip.__next__» ⟨[.ref z], []⟩) Q E s := by
  show wpAny _ _ (field (.ref z) 2 >>= _) _ _ _
  refine wpAny_bind (wpAny_field hz rfl (x := .bool false) rfl ?_)
  show wpAny _ _ (field (.ref z) 3 >>= _) _ _ _
  refine wpAny_bind (wpAny_field hz rfl (x := .ref TI) rfl ?_)
  refine wpAny_bind (wpAny_seqItems hTI rfl ?_)
  show wpAny _ _ (Builtin.SmallTypes.ownedTupleIsFree (.ref z) >>= _) _ _ _
  refine wpAny_bind (wpAny_tupleHeld_zip hz hT fun g1 hz1 s1 => ?_)
  simp only [Bool.false_eq_true, if_false]
  refine wpAny_bind ?_
  rw [← Array.forIn_toList]
  simp only [List.forIn_cons, List.forIn_nil]
  refine wpAny_bind (wpAny_bind (wpAny_holding ?_))
  show wpAny _ _ (Builtin.SmallTypes.nextOf (.ref i1) >>= _) _ _ _
  cases hx : xs[k]? with
  | none =>
    refine wpAny_bind (N1.fin _ _ { s with heap := g1 } k _ hh (N1.ext h1 s1.extBut D.i1z D.l1z) hx fun g2 e s2 he => ?_)
    exact hE g2 e (fun c o c1 c2 _ q => s2 _ _ c2 (s1.extBut _ _ c1 q)) he
  | some x =>
    have hy : ys[k]? = none := by rcases hend with h | h; rw [hx] at h; cases h; exact h
    refine wpAny_bind (N1.item _ _ { s with heap := g1 } k x _ (N1.ext h1 s1.extBut D.i1z D.l1z) hx fun g2 n1 s2 => wpAny_pure ?_)
    refine wpAny_pure ?_
    refine wpAny_bind (wpAny_bind (wpAny_holding ?_))
    show wpAny _ _ (Builtin.SmallTypes.nextOf (.ref i2) >>= _) _ _ _
    refine wpAny_bind (N2.fin _ _ { s with heap := g2 } k _ hh (N2.ext (N2.ext h2 s1.extBut D.i2z D.l2z) s2.extBut D.i12.symm D.l2i1) hy fun g3 e s3 he => ?_)
    exact hE g3 e (fun c o c1 c2 c3 q => s3 _ _ c3 (s2.extBut _ _ c2 (s1.extBut _ _ c1 q))) he
theorem py_item {Q : Option Value → Shared → Prop} (N1 : Nx prog w i1 l1 xs St1) (N2 : Nx prog w i2 l2 ys St2) (D : ZipApart z TI TO i1 i2 l1 l2)
    (hz : IsZip s.heap z TI TO .none) (hTI : IsPair s.heap TI (.ref i1) (.ref i2)) (hTO : IsPair s.heap TO a b) (h1 : St1 s.heap k) (h2 : St2 s.heap k) (hx : xs[k]? = some x) (hy : ys[k]? = some y)
    (hQ : ∀ h', IsZip h' z TI TO (rawInt s.heap.objs.size) → IsPair h' TO x y → St1 h' (k + 1) → St2 h' (k + 1) → IsPair h' s.heap.objs.size x y → h'.objs.size = s.heap.objs.size + 1 →
      (∀ c o, c ≠ z → c ≠ TO → c ≠ i1 → c ≠ i2 → s.heap.get? c = some o → h'.get? c = some o) → Q (some (.ref s.heap.objs.size)) { s with heap := h' }) : wpAny (model prog w) A (pyNext (.ref z)) Q E s := by
  have hT : s.TypeIs (.ref z) "zip" := ⟨_, hz, rfl⟩
  unfold pyNext
  exact wpAny_bind (wpAny_attempt (wpAny_callSpecial?_slot (name := Str.ofString "__next__") hT F.slot_zip_next (wpAny_call_entry F.slot_zip_next hT F.entry_zip_next
      (next_item N1 N2 D hz hTI hTO h1 h2 hx hy fun h' a1 a2 a3 a4 a5 a6 a7 => wpAny_pure (hQ h' a1 a2 a3 a4 a5 a6 a7)) (F.args_zip_next_1 _))))
theorem py_end {Q : Option Value → Shared → Prop} (hh : A.handled = none) (N1 : Nx prog w i1 l1 xs St1) (N2 : Nx prog w i2 l2 ys St2) (D : ZipApart z TI TO i1 i2 l1 l2)
    (hz : IsZip s.heap z TI TO .none) (hTI : IsPair s.heap TI (.ref i1) (.ref i2)) (hTO : IsPair s.heap TO a b) (h1 : St1 s.heap k) (h2 : St2 s.heap k) (hend : xs[k]? = none ∨ ys[k]? = none)
    (hQ : ∀ h', (∀ c o, c ≠ z → c ≠ TO → c ≠ i1 → c ≠ i2 → s.heap.get? c = some o → h'.get? c = some o) → Q none { s with heap := h' }) : wpAny (model prog w) A (pyNext (.ref z)) Q E s := by
  have hT : s.TypeIs (.ref z) "zip" := ⟨_, hz, rfl⟩
  unfold pyNext
  refine wpAny_bind (wpAny_attempt (wpAny_callSpecial?_slot (name := Str.ofString "__next__") hT F.slot_zip_next (wpAny_call_entry F.slot_zip_next hT F.entry_zip_next
    (next_end hh N1 N2 D hz hTI hTO h1 h2 hend fun h' e hk he => ?_) (F.args_zip_next_1 _))))
  obtain ⟨o, ho, hc⟩ := he
  refine wpAny_bind (wpAny_isInstance (T := "StopIteration") (b := true) ⟨o, ho, hc⟩ isSubtype_stop ?_)
  exact wpAny_pure (hQ _ hk)
theorem py_item_held {Q : Option Value → Shared → Prop} (N1 : Nx prog w i1 l1 xs St1) (N2 : Nx prog w i2 l2 ys St2) (D : ZipApart z TI TO i1 i2 l1 l2)
    (hz : IsZipHeld s.heap z TI TO T f) (hT : s.heap.get? T = some oT) (hTI : IsPair s.heap TI (.ref i1) (.ref i2)) (h1 : St1 s.heap k) (h2 : St2 s.heap k) (hx : xs[k]? = some x) (hy : ys[k]? = some y)
    (hQ : ∀ h', IsZipHeld h' z TI TO T true → St1 h' (k + 1) → St2 h' (k + 1) → IsPair h' s.heap.objs.size x y → h'.objs.size = s.heap.objs.size + 1 →
      (∀ c o, c ≠ z → c ≠ i1 → c ≠ i2 → s.heap.get? c = some o → h'.get? c = some o) → Q (some (.ref s.heap.objs.size)) { s with heap := h' }) : wpAny (model prog w) A (pyNext (.ref z)) Q E s := by
  have hTy : s.TypeIs (.ref z) "zip" := ⟨_, hz, rfl⟩
  unfold pyNext
  exact wpAny_bind (wpAny_attempt (wpAny_callSpecial?_slot (name := Str.ofString "__next__") hTy F.slot_zip_next (wpAny_call_entry F.slot_zip_next hTy F.entry_zip_next
      (next_item_held N1 N2 D hz hT hTI h1 h2 hx hy fun h' a1 a3 a4 a5 a6 a7 => wpAny_pure (hQ h' a1 a3 a4 a5 a6 a7)) (F.args_zip_next_1 _))))
theorem py_end_held {Q : Option Value → Shared → Prop} (hh : A.handled = none) (N1 : Nx prog w i1 l1 xs St1) (N2 : Nx prog w i2 l2 ys St2) (D : ZipApart z TI TO i1 i2 l1 l2)
    (hz : IsZipHeld s.heap z TI TO T f) (hT : s.heap.get? T = some oT) (hTI : IsPair s.heap TI (.ref i1) (.ref i2)) (h1 : St1 s.heap k) (h2 : St2 s.heap k) (hend : xs[k]? = none ∨ ys[k]? = none)
    (hQ : ∀ h', (∀ c o, c ≠ z → c ≠ i1 → c ≠ i2 → s.heap.get? c = some o → h'.get? c = some o) → Q none { s with heap := h' }) : wpAny (model prog w) A (pyNext (.ref z)) Q E s := by
  have hTy : s.TypeIs (.ref z) "zip" := ⟨_, hz, rfl⟩
  unfold pyNext
  refine wpAny_bind (wpAny_attempt (wpAny_callSpecial?_slot (name := Str.ofString "__next__") hTy F.slot_zip_next (wpAny_call_entry F.slot_zip_next hTy F.entry_zip_next
    (next_end_held hh N1 N2 D hz hT hTI h1 h2 hend fun h' e hk he => ?_) (F.args_zip_next_1 _))))
  obtain ⟨o, ho, hc⟩ := he
  refine wpAny_bind (wpAny_isInstance (T := "StopIteration") (b := true) ⟨o, ho, hc⟩ isSubtype_stop ?_)
  exact wpAny_pure (hQ _ hk)
end
section
variable {prog : Program} {w : World} {St1 St2 : Heap → Nat → Prop}
theorem pairArg (z TI TO i1 i2 l1 l2 : Addr) (D : ZipApart z TI TO i1 i2 l1 l2) (xs ys : Array Value) (N1 : Nx prog w i1 l1 xs St1) (N2 : Nx prog w i2 l2 ys St2) :
    PairArg prog w "zip" z [z, TI, TO, i1, i2, l1, l2] [z, TO, i1, i2] (min xs.size ys.size) (fun i k v => xs[i]? = some k ∧ ys[i]? = some v)
      (fun h => IsZip h z TI TO .none ∧ IsPair h TI (.ref i1) (.ref i2) ∧ (∃ a b, IsPair h TO a b) ∧ St1 h 0 ∧ St2 h 0) where
  type := fun s ok => ⟨_, ok.1, rfl⟩
  notDict := by decide
  keep := fun h h' ok hk => by
    obtain ⟨hz, hTI, ⟨a, b, hTO⟩, h1, h2⟩ := ok
    exact ⟨hk _ _ hz, hk _ _ hTI, ⟨a, b, hk _ _ hTO⟩, N1.keep _ _ _ h1 (fun o e => hk _ o e) (fun o e => hk _ o e), N2.keep _ _ _ h2 (fun o e => hk _ o e) fun o e => hk _ o e⟩
  there := fun h ok b hb => by
    obtain ⟨hz, hTI, ⟨a, c, hTO⟩, h1, h2⟩ := ok
    obtain ⟨t1, t2⟩ := N1.there _ _ h1
    obtain ⟨t3, t4⟩ := N2.there _ _ h2
    simp only [List.mem_cons, List.not_mem_nil, or_false] at hb
    rcases hb with rfl | rfl | rfl | rfl | rfl | rfl | rfl
    · exact ⟨_, hz⟩
    · exact ⟨_, hTI⟩
    · exact ⟨_, hTO⟩
    · exact t1
    · exact t3
    · exact t2
    · exact t4
  sub := fun b hb => by simp at hb ⊢; rcases hb with rfl | rfl | rfl | rfl <;> simp
  noKeys := fun A s Q E hA ok h => getAttrOr_miss_zip ok.1 rfl rfl rfl zip_no_keys (by decide +kernel) hA h
  iter := fun A s d Q E hA ok hd hdf h => by
    obtain ⟨hz, hTI, ⟨a, b, hTO⟩, h1, h2⟩ := ok
    simp only [List.mem_cons, List.not_mem_nil, or_false, not_or] at hdf
    obtain ⟨dz, dTI, dTO, di1, di2, dl1, dl2⟩ := hdf
    refine wpAny_pyIter_zip hz (h z [z, TO, i1, i2] (fun i h => IsPair h TI (.ref i1) (.ref i2) ∧ St1 h i ∧ St2 h i ∧
      ((IsZip h z TI TO .none ∧ ∃ a b, IsPair h TO a b) ∨ ∃ T f oT, IsZipHeld h z TI TO T f ∧ h.get? T = some oT ∧ T ≠ z ∧ T ≠ i1 ∧ T ≠ i2 ∧ T ≠ d)) s.heap s.toks ?_
      ⟨hTI, h1, h2, .inl ⟨hz, a, b, hTO⟩⟩ (fun _ _ e => e) fun b hb => .inl hb)
    exact {
      off := fun hm => by
        simp only [List.mem_cons, List.not_mem_nil, or_false] at hm
        rcases hm with e | e | e | e
        · exact dz e
        · exact dTO e
        · exact di1 e
        · exact di2 e
      frame := fun i h₁ h₂ st hk => by
        obtain ⟨hTI, h1, h2, hz⟩ := st
        refine ⟨hk _ _ (Ne.symm dTI) hTI, N1.keep _ _ _ h1 (fun o e => hk _ o (Ne.symm di1) e) (fun o e => hk _ o (Ne.symm dl1) e), N2.keep _ _ _ h2 (fun o e => hk _ o (Ne.symm di2) e) (fun o e => hk _ o (Ne.symm dl2) e), ?_⟩
        rcases hz with ⟨hz, a, b, hTO⟩ | ⟨T, f, oT, hz, hT, r1, r2, r3, r4⟩
        · exact .inl ⟨hk _ _ (Ne.symm dz) hz, a, b, hk _ _ (Ne.symm dTO) hTO⟩
        · exact .inr ⟨T, f, oT, hk _ _ (Ne.symm dz) hz, hk _ _ r4 hT, r1, r2, r3, r4⟩
      item := fun i s₁ Q₁ E₁ hi st hds hQ => by
        obtain ⟨hTI, h1, h2, hz⟩ := st
        have hix : i < xs.size := Nat.lt_of_lt_of_le hi (Nat.min_le_left ..)
        have hiy : i < ys.size := Nat.lt_of_lt_of_le hi (Nat.min_le_right ..)
        have ex := Array.getElem?_eq_getElem hix
        have ey := Array.getElem?_eq_getElem hiy
        have lt : ∀ {c o}, s₁.heap.get? c = some o → s₁.heap.objs.size ≠ c := fun e => Nat.ne_of_gt (Heap.lt_size e)
        have n1 : s₁.heap.objs.size ≠ i1 := let ⟨⟨_, e⟩, _⟩ := N1.there _ _ h1; lt e
        have n2 : s₁.heap.objs.size ≠ i2 := let ⟨⟨_, e⟩, _⟩ := N2.there _ _ h2; lt e
        rcases hz with ⟨hz, a, b, hTO⟩ | ⟨T, f, oT, hz, hT, r1, r2, r3, r4⟩
        · refine py_item N1 N2 D hz hTI hTO h1 h2 ex ey fun h' a1 a2 a3 a4 a5 a6 hk => ?_
          exact hQ s₁.heap.objs.size _ _ h' s₁.toks ⟨ex, ey⟩ (.inl ⟨_, a5, rfl, _, rfl⟩)
            ⟨hk _ _ D.TIz D.TITO D.TIi1 D.TIi2 hTI, a3, a4, .inr ⟨s₁.heap.objs.size, false, _, a1, a5, lt hz, n1, n2, Nat.ne_of_gt hds⟩⟩
            fun c o hc e => hk c o (fun x => hc (by simp [x])) (fun x => hc (by simp [x])) (fun x => hc (by simp [x])) (fun x => hc (by simp [x])) e
        · refine py_item_held N1 N2 D hz hT hTI h1 h2 ex ey fun h' a1 a3 a4 a5 a6 hk => ?_
          exact hQ s₁.heap.objs.size _ _ h' s₁.toks ⟨ex, ey⟩ (.inl ⟨_, a5, rfl, _, rfl⟩)
            ⟨hk _ _ D.TIz D.TIi1 D.TIi2 hTI, a3, a4, .inr ⟨T, true, oT, a1, hk _ _ r1 r2 r3 hT, r1, r2, r3, r4⟩⟩
            fun c o hc e => hk c o (fun x => hc (by simp [x])) (fun x => hc (by simp [x])) (fun x => hc (by simp [x])) e
      done := fun s₁ Q₁ E₁ st hQ => by
        obtain ⟨hTI, h1, h2, hz⟩ := st
        have hend : xs[min xs.size ys.size]? = none ∨ ys[min xs.size ys.size]? = none := by
          rcases Nat.le_total xs.size ys.size with h | h
          · exact .inl (Array.getElem?_eq_none (by rw [Nat.min_eq_left h]; exact Nat.le_refl _))
          · exact .inr (Array.getElem?_eq_none (by rw [Nat.min_eq_right h]; exact Nat.le_refl _))
        rcases hz with ⟨hz, a, b, hTO⟩ | ⟨T, f, oT, hz, hT, r1, r2, r3, r4⟩
        · exact py_end hA N1 N2 D hz hTI hTO h1 h2 hend fun h' hk => hQ h' s₁.toks fun c o hc e => hk c o (fun x => hc (by simp [x])) (fun x => hc (by simp [x])) (fun x => hc (by simp [x])) (fun x => hc (by simp [x])) e
        · exact py_end_held hA N1 N2 D hz hT hTI h1 h2 hend fun h' hk => hQ h' s₁.toks fun c o hc e => hk c o (fun x => hc (by simp [x])) (fun x => hc (by simp [x])) (fun x => hc (by simp [x])) e }
end
abbrev zm1 (h : Heap) (l1 : Addr) : Heap := h.push { cls := .type "list_iterator", data := .fields #[.ref l1, .int 0 0] }
abbrev zm2 (h : Heap) (l1 l2 : Addr) : Heap := (zm1 h l1).push { cls := .type "tuple_iterator", data := .fields #[.ref l2, .int 0 0] }
abbrev zm3 (h : Heap) (l1 l2 : Addr) : Heap := (zm2 h l1 l2).push { cls := .type "tuple", data := .seq #[.ref h.objs.size, .ref (zm1 h l1).objs.size] }
abbrev zm4 (h : Heap) (l1 l2 : Addr) : Heap := (zm3 h l1 l2).push { cls := .type "tuple", data := .seq #[.none, .none] }
abbrev zm5 (h : Heap) (l1 l2 : Addr) : Heap := (zm4 h l1 l2).push { cls := .type "zip", data := .fields #[.none, .bool false, .bool false, .ref (zm2 h l1 l2).objs.size, .ref (zm3 h l1 l2).objs.size] }
theorem meets_new (l1 l2 : Addr) (xs ys : Array Value) :
    Meets (Builtin.«zip.__new__» ⟨[.type "zip", .ref l1, .ref l2], []⟩) (fun _ R s => s.heap.IsList l1 xs ∧ s.heap.IsTuple l2 ys ∧
      R (.ok (.ret (.ref (zm4 s.heap l1 l2).objs.size))) { s with heap := zm5 s.heap l1 l2 }) :=
  .of_wp fun prog w A R s h => by
    obtain ⟨hp, g, d, tk, os⟩ := s; obtain ⟨hl1, hl2, h⟩ := h
    have hsub := sub_zip
    have hL1 : Heap.IsList (Shared.heap ⟨hp, g, d, tk, os⟩) l1 xs := hl1
    have hL2 : Heap.IsTuple (Shared.heap ⟨hp.push { cls := .type "list_iterator", data := .fields #[.ref l1, .int 0 0] }, g, d, tk, os⟩) l2 ys := Heap.IsTuple.push hl2 _
    wp_walk using wpAny_pyIter_list hL1, wpAny_pyIter_tuple hL2
    exact ⟨_, rfl, h⟩
section
variable {prog : Program} {w : World} {A : Around} {E : Value → Shared → Prop} {s : Shared}
theorem call_zipM {l1 l2 : Addr} {xs ys : Array Value} {Q : Value → Shared → Prop} (hl1 : s.heap.IsList l1 xs) (hl2 : s.heap.IsTuple l2 ys)
    (h : ∀ h', IsZip h' (s.heap.objs.size + 4) (s.heap.objs.size + 2) (s.heap.objs.size + 3) .none → IsPair h' (s.heap.objs.size + 2) (.ref s.heap.objs.size) (.ref (s.heap.objs.size + 1)) →
      IsPair h' (s.heap.objs.size + 3) .none .none → h'.IsListIter s.heap.objs.size l1 0 → h'.IsTupleIter (s.heap.objs.size + 1) l2 0 → h'.objs.size = s.heap.objs.size + 5 →
      (∀ c o, s.heap.get? c = some o → h'.get? c = some o) → Q (.ref (s.heap.objs.size + 4)) { s with heap := h' }) :
    wpAny (model prog w) A (call (.type "zip") [.ref l1, .ref l2]) Q E s := by
  refine callType_new F.called_zip (by decide) (F.typeCall_zip_2 _ _) (F.newCall_zip_2 _ _) (fun obj => F.args_object_init_3 obj _ _) F.entry_zip_new
    (meets_new l1 l2 xs ys) ⟨hl1, hl2, ?_⟩
  have z1 : (zm1 s.heap l1).objs.size = s.heap.objs.size + 1 := Heap.size_push ..
  have z2 : (zm2 s.heap l1 l2).objs.size = s.heap.objs.size + 2 := by rw [Heap.size_push, z1]
  have z3 : (zm3 s.heap l1 l2).objs.size = s.heap.objs.size + 3 := by rw [Heap.size_push, z2]
  have z4 : (zm4 s.heap l1 l2).objs.size = s.heap.objs.size + 4 := by rw [Heap.size_push, z3]
  have z5 : (zm5 s.heap l1 l2).objs.size = s.heap.objs.size + 5 := by rw [Heap.size_push, z4]
  have g5 : (zm5 s.heap l1 l2).get? (zm4 s.heap l1 l2).objs.size = some _ := Heap.get?_push_size _ rfl
  have g4 : (zm5 s.heap l1 l2).get? (zm3 s.heap l1 l2).objs.size = some _ := Heap.get?_push_of_some _ (Heap.get?_push_size _ rfl)
  have g3 : (zm5 s.heap l1 l2).get? (zm2 s.heap l1 l2).objs.size = some _ := Heap.get?_push_of_some _ (Heap.get?_push_of_some _ (Heap.get?_push_size _ rfl))
  have g2 : (zm5 s.heap l1 l2).get? (zm1 s.heap l1).objs.size = some _ := Heap.get?_push_of_some _ (Heap.get?_push_of_some _ (Heap.get?_push_of_some _ (Heap.get?_push_size _ rfl)))
  have g1 : (zm5 s.heap l1 l2).get? s.heap.objs.size = some _ := Heap.get?_push_of_some _ (Heap.get?_push_of_some _ (Heap.get?_push_of_some _ (Heap.get?_push_of_some _ (Heap.get?_push_size _ rfl))))
  show _ ∧ _
  rw [z2, z3, z4] at g5
  rw [z1, z2] at g3
  rw [z3] at g4
  rw [z1] at g2
  rw [z4]
  exact ⟨⟨_, g5, rfl⟩, h _ g5 g3 g4 ⟨_, g1, rfl, rfl⟩ ⟨_, g2, rfl, rfl⟩ z5 fun c o x =>
    Heap.get?_push_of_some _ (Heap.get?_push_of_some _ (Heap.get?_push_of_some _ (Heap.get?_push_of_some _ (Heap.get?_push_of_some _ x))))⟩
end
end DLZ
namespace DL
open PySem PySem.Spec PyProof.Rows L2
theorem relDs_keys {K : PySem.W.Frag} {F : Hp} : ∀ {ks : List DK} {vs : List V}, RelDs K F (ks.map kD) vs → vs = ks.map fun k => kV (kk k)
  | [], vs, h => h.nil_inv
  | k :: ks, vs, h => by
    obtain ⟨v, q, rfl, h1, h2⟩ := h.cons_inv
    rw [kD_rel h1, relDs_keys h2]
    rfl
theorem kv_zip : ∀ {ks : List Key} {vs : List V} {us : List Value}, Vals vs us → KV (ks.zip vs) (ks.zip us)
  | [], _, _, _ => .nil
  | _ :: _, _, _, .nil => .nil
  | k :: ks, _, _, .cons h t => .cons ⟨rfl, h⟩ (kv_zip t)
theorem relF_zip {K : PySem.W.Frag} {F : Hp} : ∀ {ks : List DK} {fs : List DL.D} {vs : List V}, RelDs K F fs vs → RelF K F (kmap (ks.zip fs)) ((ks.map kk).zip vs)
  | [], _, _, _ => rfl
  | k :: ks, [], vs, h => by
    rw [h.nil_inv]
    exact rfl
  | k :: ks, d :: fs, vs, h => by
    obtain ⟨v, q, rfl, h1, h2⟩ := h.cons_inv
    exact ⟨v, _, rfl, h1, relF_zip h2⟩
section
variable {X : Cx} {F0 : Ent}
def tdDictZ (tr : TDs) : TD := fun ρ S Q => tr ρ S fun ds S1 => ∃ (ks : List DK) (fs : List DL.D), ds = [.lst (ks.map kD), .tup fs] ∧ ks.length ≤ 100000 ∧ ∀ p, S1 p = none → Q (.ref p) (sup S1 p (.dic (mergeD [] (ks.zip fs))))
theorem de_dictZ {e e2 : Expr} {p p2 pos pos2 : Pos} {tr : TDs} (hcalm : X.calm = true) (hg : Gl X "dict") (hm : X.mg "dict" = none) (hg2 : Gl X "zip") (hm2 : X.mg "zip" = none) (ha : DA X F0 [e, e2] tr)
    (hs : starEach [e, e2] X.env = (false, eval e X.env) :: starEach [e2] X.env := by rfl) (hpl : (backTo pos2 (starEach [e2] X.env)).any (·.1) = false := by rfl) :
    DE X F0 (.Call (.Name "dict" p) [.Call (.Name "zip" p2) [e, e2] [] pos2] [] pos) (tdDictZ tr) := by
  refine ⟨fun pins s σ H Q I ⟨F, S, ρ, Q', at0, h, pp⟩ => ?_⟩
  have h' : tr ρ S fun ds S1 => ∃ (ks : List DK) (fs : List DL.D), ds = [.lst (ks.map kD), .tup fs] ∧ ks.length ≤ 100000 ∧ ∀ p, S1 p = none → Q' (.ref p) (sup S1 p (.dic (mergeD [] (ks.zip fs)))) := h
  refine Call_ (ld_blt I hg hm bb_dict ?_)
  refine callWith_type1 (args_cons ?_ rfl) rfl rfl
  refine Call_ (ld_blt I hg2 hm2 boot_zip (callWith_type1 (thn (ha.run pos2 pins s σ H _ I (DL.AL.go at0 h' fun vs H1 F1 S1 ds x1 a1 r1 q1 => (⟨F1, S1, ds, x1, a1, r1, q1⟩ :
    ∃ F1 S1 ds, Ext F S H F1 S1 H1 ∧ At X.K F0 F1 S1 H1 ρ σ ∧ RelDs X.K F1 ds vs ∧ ∃ (ks : List DK) (fs : List DL.D), ds = [.lst (ks.map kD), .tup fs] ∧ ks.length ≤ 100000 ∧ ∀ p, S1 p = none → Q' (.ref p) (sup S1 p (.dic (mergeD [] (ks.zip fs))))))) fun us s1 ⟨vs, H1, I1, r1, F1, S1, ds, x1, a1, r2, ks, fs, e1, hl, q⟩ => ?_) hs hpl))
  subst e1
  obtain ⟨v, w, rfl, rv, rw'⟩ := rds2 r2
  obtain ⟨l1, xs, rfl, k1, k2⟩ := rv.lst_e
  obtain ⟨l2, ys, rfl, k3, k4⟩ := rw'.tup_e
  have ex := relDs_keys k2
  cases r1 with
  | cons r r1 =>
    cases r1 with
    | cons r' r1 =>
      cases r1
      cases r
      cases r'
      obtain ⟨its, v1, p1, _⟩ := I1.list (SqL.of (a1.sr.fro _ _ k1))
      obtain ⟨its2, v2, p3, hz2⟩ := I1.tuple (seqT a1.sr.fro k3)
      have len1 : its.length = ks.length := by rw [← v1.length, ex, List.length_map]
      obtain ⟨o2, ho2, _⟩ := id p3
      refine DLZ.call_zipM p1.isList (show s1.heap.IsTuple l2 its2.toArray from p3) fun h' hz hTI hTO h1 h2 hsz hk => ?_
      refine args_nil ?_
      have I2 : Inv X pins σ H1 { s1 with heap := h' } := I1.kept (t' := s1.toks) hk
      have D : ZipApart (s1.heap.objs.size + 4) (s1.heap.objs.size + 2) (s1.heap.objs.size + 3) s1.heap.objs.size (s1.heap.objs.size + 1) l1 l2 := PySem.W.ktu_apart s1.heap.objs.size l1 l2 p1.lt (Heap.lt_size ho2)
      refine PySem.call_dict_pairs (s := { s1 with heap := h' }) (knd := mixKind X.prog X.w) (kvs := (ks.map kk).zip its2)
        (DLZ.pairArg (prog := X.prog) (w := X.w) _ _ _ _ _ l1 l2 D its.toArray its2.toArray (DLZ.nx_list _ l1 D.l1i1 its.toArray) (DLZ.nx_tuple _ l2 D.l2i2 its2.toArray)) (I.ok.hd hcalm)
        ⟨hz, hTI, ⟨_, _, hTO⟩, ⟨h1, p1.isList.at fun o e => hk _ o e⟩, ⟨h2, (show s1.heap.IsTuple l2 its2.toArray from p3).at fun o e => hk _ o e⟩⟩ ⟨?_, fun i key v hr => ?_⟩ ?_ fun h'' tk hd' hk' => ?_
      · rw [List.length_zip, List.length_map, List.size_toArray, List.size_toArray, len1]
      · obtain ⟨g1, g2⟩ := hr
        rw [List.getElem?_toArray] at g1 g2
        obtain ⟨hlt, _⟩ := List.getElem?_eq_some_iff.mp g1
        have hlt2 : i < ks.length := by omega
        refine ⟨kk ks[i], ?_, ?_⟩
        · rw [List.getElem?_zip_eq_some]
          exact ⟨by rw [List.getElem?_map, List.getElem?_eq_getElem hlt2]; rfl, g2⟩
        · obtain ⟨u, g3, g4⟩ := v1.get (i := i) (x := kV (kk ks[i])) (by rw [ex, List.getElem?_map, List.getElem?_eq_getElem hlt2]; rfl)
          rw [g1] at g3
          cases g3
          exact kV_is g4
      · have := sz5 (n := 100000) (by decide)
        rw [List.size_toArray, List.size_toArray]
        omega
      · have hnew : h'.objs.size = s1.heap.objs.size + 5 := hsz
        have hm' : (h'.objs.size == sysModules) = false := beq_eq_false_iff_ne.mpr (Nat.ne_of_gt I2.big)
        have hrel : KV (mergeK [] ((ks.map kk).zip ys)) (merged [] ((ks.map kk).zip its2)) := KV.merge (kv_zip v2) .nil
        have hlen : (mergeK [] ((ks.map kk).zip ys)).length ≤ sizeLine := by
          refine Nat.le_trans (length_mergeK _ []) ?_
          rw [List.length_nil, Nat.zero_add, List.length_zip, List.length_map]
          have := sz5 (n := 100000) (by decide)
          omega
        have nH : H1 h'.objs.size = none := I2.hok.fresh (Nat.le_refl _)
        have hr := mergeD_rel (K := X.K) (F := F1) (more := ks.zip fs) (kvs := []) (ws := []) (relF_zip k4) rfl
        refine ⟨.ref h'.objs.size, upd H1 h'.objs.size (.dK (mergeK [] ((ks.map kk).zip ys))), ?_, rfl, ?_⟩
        · exact I1.laid (t' := tk) (fun b u e => hk' b u (fun hb => by
            have hlt := Heap.lt_size e
            simp only [List.mem_cons, List.not_mem_nil, or_false] at hb
            rcases hb with z | z | z | z <;> rw [z] at hlt
            · exact absurd hlt (Nat.not_lt.mpr (Nat.le_add_right _ _))
            · exact absurd hlt (Nat.not_lt.mpr (Nat.le_add_right _ _))
            · exact absurd hlt (Nat.lt_irrefl _)
            · exact absurd hlt (Nat.not_lt.mpr (Nat.le_add_right _ _))) (hk b u e)) (by rw [hnew]; exact Nat.le_add_right _ _) (show ObjOk X.prog X.w _ _ _ (.dK _) from ⟨hlen, hm', _, hrel, hd'⟩)
        · exact pp.of (x1.trans (a1.sr.ext_box (o := .dic (mergeD [] (ks.zip fs))) nH)) (a1.sr.box (o := .dic (mergeD [] (ks.zip fs))) nH ⟨_, rfl, hr⟩) (.ref_i _) (q _ (a1.sr.snone nH))
end
end DL
namespace DL
open PySem PySem.Spec PyProof.Rows L2
section
variable {X : Cx} {d : Nat} {f C : Addr} {fd : FuncData} {ps : List Str} {sp : Sp} {E : XK} {x m : Str} {p pos apos : Pos} {e o : Expr} {es : List Expr} {ta : TE} {t : TA} {dvs : List V} {ds : List Value}
theorem goes_fnV {pins : List (Addr × Obj)} {σ : L2.St} {H : Hp} {s : Shared} {Q : VK} {ws : List Value} {us : List V} (G : FnD X.prog X.w X.K X.mg X.base d f fd ps sp) (hr : Rm d X.A) (hb : Binds X.K fd ps ds) (hv : Vals dvs ds) (hx : Passes (L2.CX X.prog X.w) X E)
    (I : Inv X pins σ H s) (r : Vals us ws) (h : sp (us ++ dvs) H Q E) : wpAny (model X.prog X.w) X.A (call (.ref f) ws) (EP X pins σ Q) X.xe s := by
  have r2 := r.append hv
  have hl : (ws ++ ds).length = ps.length := by rw [← r2.length]; exact G.many _ _ _ _ h
  have bb := hb s ws I.kIn hl
  refine wpAny_call (codeAny_mono (G.goes X.A X.stack s H ⟨ws, []⟩ (ws ++ ds) (us ++ dvs) Q E hr I.env0 bb r2 h) fun z s' hq => ?_)
  match z, hq with
  | .error e, hq => exact hx pins σ H s e s' I hq
  | .ok (.ret u), hq => exact I.after hq
theorem pd_callV (G : FnD X.prog X.w X.K X.mg X.base d f fd ps sp) (hr : Rm d X.A) (hg : Gl X x) (hm : X.mg x = some (.ref f)) (hk : PySem.W.keepIn X.K (.ref f) = true) (hb : Binds X.K fd ps ds) (hv : Vals dvs ds) (hx : Passes (L2.CX X.prog X.w) X E)
    (ha : PA X (e :: es) t) (hdb : (x == ("__debug__" : Str)) = false := by decide) (he : starEach (e :: es) X.env = (false, eval e X.env) :: starEach es X.env := by rfl) (hpl : (backTo pos (starEach es X.env)).any (·.1) = false := by rfl) :
    PE X (.Call (.Name x p) (e :: es) [] pos) (tCall sp dvs E t) :=
  ⟨fun pins s σ H Q I h => wpAny_Call_Name_kw (ld_glob I hg hm (PySem.W.callWith_K (h₀ := X.base) I.ok.mod.kin hk (thn (ha.run pos pins s σ H _ I h) fun ws s1 ⟨us, H1, I1, r, q⟩ => ⟨I1.kIn, goes_fnV G hr hb hv hx I1 r q⟩) he hpl) hdb)⟩
end
section
variable {P : Program} {w : World} {K : PySem.W.Frag} {mg : Str → Option Value} {base : Heap}
theorem fnd_ofV {x qual : Str} {st : Stmt} {f : Addr} {fd : FuncData} {N ps : List Str} {d : Nat} {sp : Sp} {dvs : List V} (Fn : FunD K x qual (defArgs st) (defBody st) (defScope st) dvs [] f fd) (Sc : FnScope N ps (defScope st)) (many : ∀ us H Q E, sp us H Q E → us.length = ps.length)
    (hbody : ∀ (cdv : Value) (A : Around) (outer : List Env) (s : Shared) (H : Hp) (us : List V) (Q : VK) (E : XK), Rm d (A.deeper (envOfC qual (defScope st) s.heap.objs.size f cdv)) → sp us H Q E →
      ∃ t, PSs (cxOf (L2.CX P w) P w K mg base N qual (defScope st) f cdv A outer s H E) (defBody st) t ∧ t { nx := fun _ H' => Q .non H', rt := Q } (start N us) H) :
    FnD P w K mg base (d + 1) f fd ps sp := by
  obtain ⟨oc, od, dV, kV, doc, pm, an, cdv, ct, osl, rfl, lk, hcd, _, _⟩ := Fn.ex
  refine ⟨many, fun A outer s H args ws us Q E hr e0 hb r hsp => ?_⟩
  have KX : K.In s.heap := e0.mod.kin.keeps fun b o z => (e0.bs b o z).1
  have hkind : ∀ y ∈ ps.zip ws, (defScope st).names.lookup y.1 = some .local ∨ ((defScope st).names.lookup y.1 = some .cell ∧ ((cellsFrom (s.heap.objs.size + 1) (defScope st).names []).lookup y.1).isSome = true) := fun ⟨n, v⟩ hy =>
    (Sc.par n (List.of_mem_zip hy).1).imp id fun q => ⟨q, PySem.W.cellsFrom_some _ _ _ (.inl q)⟩
  refine codeAny_call_function (by have z := hr.dep; omega) (KX _ _ lk) rfl Sc.co Sc.gen rfl (PySem.W.codeRec_of KX hcd) (hb _ _ _ _ (wpAny_newFunctionEnv_cells Sc.kind hkind fun env he s1 y => ?_))
  subst he
  obtain ⟨t, ht, hq⟩ := hbody cdv A outer s H us Q E (hr.body _) hsp
  have I : Inv (cxOf (L2.CX P w) P w K mg base N qual (defScope st) f cdv A outer s H E) [] (start N us) H s1 := inv_start Sc hr.noh e0 (many _ _ _ _ hsp) r y
  refine ⟨(e0.mod.nolimit.keeps fun b o z => (e0.bs b o z).1).keeps y.toInCall.keep, codeAny_func (wpAny_mono (ht.run [] s1 (start N us) H _ I hq) (fun fl s' hs => ?_) fun e s' hs => hs)⟩
  have fin : ∀ {σ' : L2.St} {H' : Hp} {v : V} {u : Value}, Inv (cxOf (L2.CX P w) P w K mg base N qual (defScope st) f cdv A outer s H E) [] σ' H' s' → RelV v u → Q v H' → CE outer P w H s Q u s' :=
    fun {σ' H' v u} J rv q => ⟨v, H', J.os, J.bare, J.base, J.hok, rv, q⟩
  match fl, hs with
  | .ret u, ⟨v, σ', H', J, rv, q⟩ => exact fin J rv q
  | .next, ⟨σ', H', J, q⟩ => exact fin (v := V.non) (u := Value.none) J rfl q
  | .brk, ⟨_, _, _, q⟩ => exact q.elim
  | .cont, ⟨_, _, _, q⟩ => exact q.elim
theorem df_ofV {x qual : Str} {st : Stmt} {f : Addr} {fd : FuncData} {N ps : List Str} {k : Nat} {m : M} {t : XD → TDS} {dvs : List V} (Fn : FunD K x qual (defArgs st) (defBody st) (defScope st) dvs [] f fd) (Sc : FnScope N ps (defScope st))
    (body : ∀ (cdv : Value) (A : Around) (outer : List Env) (s : Shared) (H : Hp) (E : XK) (F0 : Ent) (E' : XD), BC (cxOf (L2.CX P w) P w K mg base N qual (defScope st) f cdv A outer s H E) F0 k E' →
      DSs (cxOf (L2.CX P w) P w K mg base N qual (defScope st) f cdv A outer s H E) F0 (defBody st) (t E'))
    (read : ∀ (ds : List D) (S : Store) (Q : D → Store → Prop) (E : XD), ds.length = ps.length → m ds S Q E → t E { nx := fun _ S' => Fini Q .non S', rt := Fini Q } (startD N ds) S) :
    DF P w K mg base (k + 1) f fd ps m := by
  refine fnd_ofV Fn Sc (fun vs H Q E ⟨F, S, ds, Q', E', h1, h2, h3, h4, h5, h6⟩ => by rw [h2.length, h3]) fun cdv A outer s H vs Q E hr ⟨F, S, ds, Q', E', h1, h2, h3, h4, h5, h6⟩ => ?_
  have B : BC (cxOf (L2.CX P w) P w K mg base N qual (defScope st) f cdv A outer s H E) ⟨F, S, H⟩ k E' :=
    ⟨hr, rfl, _, takes_of rfl rfl rfl rfl, fun F' S' H' y cls od σ hl z sr er q => h6 F' S' H' y cls od z sr er q⟩
  refine ⟨_, body cdv A outer s H E ⟨F, S, H⟩ E' B, F, S, startD N ds, _, ⟨Ext.refl _ _ _, h1, startD_rel h2⟩, read ds S Q' E' h3 h4, ?_, ?_, ?_, ?_⟩
  · exact fun σ' H' F' S' ρ' z sr ev q => fini_go h5 z sr .non_i q
  · exact fun v H' F' S' d z sr rd q => fini_go h5 z sr rd q
  · exact fun _ _ _ _ _ _ _ _ q => q
  · exact fun _ _ _ _ _ _ _ _ q => q
end
/-- a def whose last parameters may be left out: dds -/
structure CaV (P : Program) (w : World) (K : PySem.W.Frag) (mg : Str → Option Value) (base : Heap) (k : Nat) (x : Str) (ps : List Str) (dds : List D) (m : M) : Prop where
  ex : ∃ (f : Addr) (fd : FuncData) (dvs : List V) (ds : List Value), DF P w K mg base k f fd ps m ∧ mg x = some (.ref f) ∧ PySem.W.keepIn K (.ref f) = true ∧ Binds K fd ps ds ∧ Vals dvs ds ∧ ∀ F, RelDs K F dds dvs
theorem CaV.mono {P : Program} {w : World} {K : PySem.W.Frag} {mg : Str → Option Value} {base : Heap} {k j : Nat} {x : Str} {ps : List Str} {dds : List D} {m : M} (G : CaV P w K mg base j x ps dds m) (h : j ≤ k) : CaV P w K mg base k x ps dds m := let ⟨f, fd, dvs, ds, h1, h2⟩ := G.ex; ⟨f, fd, dvs, ds, h1.mono h, h2⟩
section
variable {X : Cx} {F0 : Ent} {e o : Expr} {es : List Expr} {to te : TD} {tr : TDs} {p apos pos : Pos} {x mn : Str} {C : Addr} {k : Nat} {E' : XD} {ps : List Str} {m : M} {dds : List D}
def tdCallV (m : M) (n : Nat) (dds : List D) (E' : XD) (t : TDs) : TD := fun ρ S Q => t ρ S fun ds S1 => (ds ++ dds).length = n ∧ m (ds ++ dds) S1 Q E'
theorem de_caV (G : CaV X.prog X.w X.K X.mg X.base k x ps dds m) (B : BC X F0 k E') (hg : Gl X x) (ha : DA X F0 (e :: es) tr)
    (hdb : (x == ("__debug__" : Str)) = false := by decide) (he : starEach (e :: es) X.env = (false, eval e X.env) :: starEach es X.env := by rfl) (hpl : (backTo pos (starEach es X.env)).any (·.1) = false := by rfl) :
    DE X F0 (.Call (.Name x p) (e :: es) [] pos) (tdCallV m ps.length dds E' tr) := by
  obtain ⟨f, fd, dvs, ds, h1, h2, h3, h4, h5, h6⟩ := G.ex
  obtain ⟨E, hp, hE⟩ := B.pass
  exact PE.weak (pd_callV (E := E) h1 B.room hg h2 h3 h4 h5 hp ha hdb he hpl) fun σ H Q ⟨F, S, ρ, Q', a, h, pp⟩ => AL.go a h fun vs H1 F1 S1 es x1 a1 r1 ⟨q0, q1⟩ =>
    ⟨F1, S1, es ++ dds, Q', E', a1.sr, r1.append (h6 F1), q0, q1, pp.ext x1, fun F' S' H' y cls od z sr er q => hE F' S' H' y cls od (a1.f0.trans z) sr er q⟩
end
end DL
namespace DL
open PySem PySem.Spec L2
section
variable {X : Cx}
def gKIn (f : Bool → Bool) : DOp := fun S x y Q => ∃ a kvs k, y = .ref a ∧ S a = some (.dic kvs) ∧ x = kD k ∧ Q (.bl (f (hasD kvs k))) S
theorem kin_case {K : PySem.W.Frag} {F : Hp} {S : Store} {H : Hp} {x y : D} {v u : V} {Q' : D → Store → Prop} {Q : VK} {f : Bool → Bool} (sr : SR K F S H) (rx : RelD K F x v) (ry : RelD K F y u) (h : gKIn f S x y Q') (p : Post K F S H Q' Q) :
    ∃ a o, u = .ref a ∧ DGet H a v o ∧ Q (.bl (f o.isSome)) H := by
  obtain ⟨b, kvs, k, e1, e2, e3, q⟩ := h
  subst e1 e3
  obtain rfl := ry.ref_e
  obtain ⟨ws, h1, h2⟩ := sr.dic e2
  refine ⟨b, valV ws (kk k), rfl, by rw [kD_rel rx]; exact DGet.k h1, ?_⟩
  rw [← valV_any, hasD_rel h2]
  exact p.of (Ext.refl _ _ _) sr (.bl_i _) q
theorem od_inK (hu : X.A.units + 65 < cLine) : OpR X (compareOp .In) (OL X.K (gKIn id)) := by
  intro pins s σ H x y v u Q I rx ry ⟨F, S, dx, dy, Q', sr, r1, r2, g, p⟩
  obtain ⟨a, o, rfl, g, q⟩ := kin_case sr r1 r2 g p
  obtain rfl : u = Value.ref a := ry
  exact d_in (by omega) I g rx fun s3 I3 => ⟨.bl o.isSome, H, I3, rfl, q⟩
theorem od_ninK (hu : X.A.units + 65 < cLine) : OpR X (compareOp .NotIn) (OL X.K (gKIn not)) := by
  intro pins s σ H x y v u Q I rx ry ⟨F, S, dx, dy, Q', sr, r1, r2, g, p⟩
  obtain ⟨a, o, rfl, g, q⟩ := kin_case sr r1 r2 g p
  obtain rfl : u = Value.ref a := ry
  exact d_notIn (by omega) I g rx fun s3 I3 => ⟨.bl (!o.isSome), H, I3, rfl, q⟩
def gIsnB : DOp := fun S x y Q => ∃ a b, x = .bl a ∧ y = .bl b ∧ Q (.bl (!decide (a = b))) S
theorem od_isnB : OpR X (compareOp .IsNot) (OL X.K gIsnB) :=
  OpR.weak op_isnot_bl fun x y H Q ⟨F, S, dx, dy, Q', sr, rx, ry, ⟨a, b, e1, e2, q⟩, p⟩ => by
    subst e1 e2
    exact ⟨a, b, rx.bl_e, ry.bl_e, p.of (Ext.refl _ _ _) sr (.bl_i _) q⟩
end
end DL
namespace DL
open PySem PySem.Spec L2
section
variable {X : Cx} {F0 : Ent}
def tdLcB (ti : TDI) (v : Nat) (tt : TDT) (te : TD) : TD := fun ρ S Q => ti ρ S fun ds S1 => lcR v tt te ρ ds [] S1 fun ys S2 => ∀ p, S2 p = none → Q (.ref p) (sup S2 p (.lst ys))
theorem lcB_go {ti : TDI} {v : Nat} {tt : TDT} {te : TD} {K : PySem.W.Frag} {σ : L2.St} {H : Hp} {Q : VK} (h : EL K F0 (tdLcB ti v tt te) σ H Q) : tLc (IL K F0 ti) (gName v) (TL K F0 tt) (EL K F0 te) [v] σ H Q := by
  obtain ⟨F, S, ρ, Q', a, h, p⟩ := h
  refine IL.go a h fun J H1 F1 S1 ds x1 a1 it q1 D hD => ?_
  refine ⟨fun i m H => m = ds.length - i ∧ i ≤ ds.length ∧ ∃ F S acc vs, Ext F1 S1 (upd H1 D (.lst vs)) F S H ∧ SR K F S H ∧ RelDs K F acc vs ∧ lcR v tt te ρ (ds.drop i) acc S fun ys S2 => ∀ p, S2 p = none → Q' (.ref p) (sup S2 p (.lst ys)),
    ⟨ds.length, by omega, Nat.zero_le _, F1, S1, [], [], Ext.refl _ _ _, a1.sr.laid hD, .nil, q1⟩, ?_⟩
  rintro i m H2 ⟨rfl, hi, F2, S2, acc, vs, x2, sr2, racc, q2⟩
  have sm : Same F1 H2 := x2.same.trans sr2.fro
  obtain ⟨nF, nS, hH⟩ := x2.laid_none a1.sr hD
  by_cases hlt : i < ds.length
  · refine .inr ⟨it.go i H2 sm hlt, fun H => ∃ F S acc vs, Ext F1 S1 (upd H1 D (.lst vs)) F S H ∧ SR K F S H ∧ RelDs K F acc vs ∧ lcR v tt te ρ (ds.drop (i + 1)) acc S fun ys S2 => ∀ p, S2 p = none → Q' (.ref p) (sup S2 p (.lst ys)), fun H' n => ⟨ds.length - (i + 1), by omega, rfl, hlt, n⟩, fun x H' y => ?_⟩
    obtain ⟨F3, d, x3, sr3, hd, rd⟩ := it.yld i x H2 H' F2 S2 x2.same sr2 y hlt
    have e : ds.drop i = d :: ds.drop (i + 1) := by
      rw [List.drop_eq_getElem_cons hlt]
      congr 1
      rw [List.getElem?_eq_getElem hlt] at hd
      exact Option.some.inj hd
    rw [e] at q2
    have x13 : Ext F1 S1 (upd H1 D (.lst vs)) F3 S2 H' := x2.trans x3
    have a3 : At K F0 F3 S2 H' (ρ.set v (some d)) ((wipe σ [v]).set v (some x)) := by
      refine ⟨a1.f0.trans ((Ext.laid hD).trans x13), sr3, ?_⟩
      have h0 : (wipe σ [v]).set v (some x) = σ.set v (some x) := by
        show (σ.set v none).set v (some x) = _
        rw [List.set_set]
      rw [h0]
      exact (a1.env.mono x13.same).set rd v
    refine ⟨?_, ?_⟩
    · show ((σ.set v none).set v (some x)).set v none = σ.set v none
      rw [List.set_set, List.set_set]
    · refine TL.go a3 q2 fun b H4 F4 S4 x4 a4 q4 => ?_
      cases b with
      | false => exact iteF ⟨F4, S4, acc, vs, x13.trans x4, a4.sr, RelDs.mono x4.same _ _ (RelDs.mono x3.same _ _ racc), q4⟩
      | true =>
        refine iteT (EL.go a4 q4 fun w H5 F5 S5 yd x5 a5 r5 ⟨hl, q5⟩ => ?_)
        have x15 := (x13.trans x4).trans x5
        obtain ⟨nF5, nS5, hH5⟩ := x15.laid_none a1.sr hD
        have racc5 := RelDs.mono x5.same _ _ (RelDs.mono x4.same _ _ (RelDs.mono x3.same _ _ racc))
        refine ⟨vs, hH5, by rw [racc5.length]; exact hl, ?_⟩
        exact ⟨F5, S5, acc ++ [yd], vs ++ [w], Ext.reset (K := K) x15, a5.sr.re nF5 nS5, racc5.append (.cons r5 .nil), q5⟩
  · refine .inl ⟨it.stop i H2 sm (by omega), ?_⟩
    rw [List.drop_eq_nil_of_le (by omega)] at q2
    have k1 := sr2.adoptS (F := F2) (o := .lst acc) (ho := .lst vs) nF ⟨_, rfl, racc⟩
    have k3 := x2.adoptS (o := .lst acc) (ho := .lst vs) hD
    rw [upd_id hH] at k1 k3
    exact p.of (x1.trans k3) k1 (.ref_i _) (q2 D nS)
theorem ds_setLcB (i : Nat) {y : Str} {py : Pos} {elt iter : Expr} {ifs : List Expr} {scope : Scope} {x : Str} {xp spos pos : Pos} {v : Nat} {ti : TDI} {tt : TDT} {te : TD} (hc : X.calm = true) (hN : X.N.Nodup) (hy : X.N[i]? = some y) (hyl : X.env.scope.names.lookup y = some .local)
    (hsw : swapsWith (.ListComp elt [⟨.Name x xp, iter, ifs, 0⟩] scope pos) (some (.Name y py)) spos.line X.env = pure true) (hi : DI X F0 (.Name x xp) iter ti) (ok : BlkOk X.N X.env.scope scope [(x, v)])
    (hg : ∀ (s : Shared) (H : Hp) (C : Addr) (cl : List (Str × Addr)) (fp : List Addr), PG (X.blk s H scope (compEnvC scope cl C X.env) fp) (.Name x xp) (gName v))
    (ht : ∀ (s : Shared) (H : Hp) (C : Addr) (cl : List (Str × Addr)) (fp : List Addr), DTs (X.blk s H scope (compEnvC scope cl C X.env) fp) F0 ifs tt)
    (he : ∀ (s : Shared) (H : Hp) (C : Addr) (cl : List (Str × Addr)) (fp : List Addr), DE (X.blk s H scope (compEnvC scope cl C X.env) fp) F0 elt te) (hs : ∀ x, foldedSetIterable iter X.env x = pure x := by intro _; rfl) :
    DS X F0 (.Assign [.Name y py] (.ListComp elt [⟨.Name x xp, iter, ifs, 0⟩] scope pos) spos) (tdAsg (tdLcB ti v tt te) (gdName i)) :=
  PS.weak (ps_setLc (own := [(x, v)]) (tt := TL X.K F0 tt) (te := EL X.K F0 te) hc hN hy hyl hsw hi ok hg ht he hs) fun D σ H ⟨F, S, ρ, D', a, h, p⟩ => by
    show tLc _ _ _ _ _ σ H _
    exact lcB_go (EL.go a h fun w H1 F1 S1 d x1 a1 r1 q1 => p.1 _ _ _ _ _ x1 a1.sr (a1.env.set r1 i) q1)
theorem de_lcB {elt iter : Expr} {ifs : List Expr} {scope : Scope} {x : Str} {xp pos : Pos} {v : Nat} {ti : TDI} {tt : TDT} {te : TD} (hc : X.calm = true) (hN : X.N.Nodup) (hi : DI X F0 (.Name x xp) iter ti) (ok : BlkOk X.N X.env.scope scope [(x, v)])
    (hg : ∀ (s : Shared) (H : Hp) (C : Addr) (cl : List (Str × Addr)) (fp : List Addr), PG (X.blk s H scope (compEnvC scope cl C X.env) fp) (.Name x xp) (gName v))
    (ht : ∀ (s : Shared) (H : Hp) (C : Addr) (cl : List (Str × Addr)) (fp : List Addr), DTs (X.blk s H scope (compEnvC scope cl C X.env) fp) F0 ifs tt)
    (he : ∀ (s : Shared) (H : Hp) (C : Addr) (cl : List (Str × Addr)) (fp : List Addr), DE (X.blk s H scope (compEnvC scope cl C X.env) fp) F0 elt te) (hs : ∀ x, foldedSetIterable iter X.env x = pure x := by intro _; rfl) :
    DE X F0 (.ListComp elt [⟨.Name x xp, iter, ifs, 0⟩] scope pos) (tdLcB ti v tt te) :=
  PE.weak (pe_lc (own := [(x, v)]) (tt := TL X.K F0 tt) (te := EL X.K F0 te) hc hN hi ok hg ht he hs) fun σ H Q h => lcB_go h
theorem ds_setLcT (i : Nat) {y : Str} {py : Pos} {elt iter : Expr} {ifs : List Expr} {scope : Scope} {tg : Expr} {own : List (Str × Nat)} {spos pos : Pos} {ti : TDI} {tt : TDT} {te : TD} (vs : List Nat) (hvs : own.map (·.2) = vs) (hc : X.calm = true) (hN : X.N.Nodup) (hy : X.N[i]? = some y) (hyl : X.env.scope.names.lookup y = some .local)
    (hsw : swapsWith (.ListComp elt [⟨tg, iter, ifs, 0⟩] scope pos) (some (.Name y py)) spos.line X.env = pure true) (hi : DI X F0 tg iter ti) (ok : BlkOk X.N X.env.scope scope own)
    (hg : ∀ (s : Shared) (H : Hp) (C : Addr) (cl : List (Str × Addr)) (fp : List Addr), PG (X.blk s H scope (compEnvC scope cl C X.env) fp) tg (gTup X.K vs.length (gNames vs)))
    (ht : ∀ (s : Shared) (H : Hp) (C : Addr) (cl : List (Str × Addr)) (fp : List Addr), DTs (X.blk s H scope (compEnvC scope cl C X.env) fp) F0 ifs tt)
    (he : ∀ (s : Shared) (H : Hp) (C : Addr) (cl : List (Str × Addr)) (fp : List Addr), DE (X.blk s H scope (compEnvC scope cl C X.env) fp) F0 elt te) (hs : ∀ x, foldedSetIterable iter X.env x = pure x := by intro _; rfl) :
    DS X F0 (.Assign [.Name y py] (.ListComp elt [⟨tg, iter, ifs, 0⟩] scope pos) spos) (tdAsg (tdLcT ti vs tt te) (gdName i)) := by
  subst hvs
  exact PS.weak (ps_setLc (own := own) (tt := TL X.K F0 tt) (te := EL X.K F0 te) hc hN hy hyl hsw hi ok hg ht he hs) fun D σ H ⟨F, S, ρ, D', a, h, p⟩ => by
    show tLc _ _ _ _ _ σ H _
    exact lcT_go (EL.go a h fun w H1 F1 S1 d x1 a1 r1 q1 => p.1 _ _ _ _ _ x1 a1.sr (a1.env.set r1 i) q1)
/-- comprehensions over pairs, each turn by itself -/
theorem lcT_ind {vs : List Nat} {te : TD} {ρ : Rho} {Q : List D → Store → Prop} (J : List D → List D → Store → Prop) (h0 : ∀ acc S, J [] acc S → Q acc S)
    (h : ∀ d ds acc S (W : D → Store → Prop), (∀ y S', J ds (acc ++ [y]) S' → W y S') → J (d :: ds) acc S → ∃ xs, d = .tup xs ∧ xs.length = vs.length ∧ te (setD (unsetD ρ vs) vs xs) S fun y S' => acc.length < sizeLine ∧ W y S') :
    ∀ (ds acc : List D) (S : Store), J ds acc S → lcT vs tdYes te ρ ds acc S Q
  | [], acc, S, j => h0 acc S j
  | d :: ds, acc, S, j => by
    unfold lcT
    obtain ⟨xs, e1, e2, q⟩ := h d ds acc S _ (fun y S' j' => lcT_ind J h0 h ds (acc ++ [y]) S' j') j
    refine ⟨xs, e1, e2, ?_⟩
    show if true = true then (te (setD (unsetD ρ vs) vs xs) S fun y S2 => acc.length < sizeLine ∧ lcT vs tdYes te ρ ds (acc ++ [y]) S2 Q) else (lcT vs tdYes te ρ ds acc S Q)
    exact iteT q
theorem lcT_m {α : Type} {vs : List Nat} {te : TD} {ρ : Rho} {Q : List D → Store → Prop} (f : α → D) (g : α → List D) (hl : ∀ x, (g x).length = vs.length) :
    ∀ (l : List α) (acc : List D) (S : Store), (∀ x ∈ l, ∀ Q' : D → Store → Prop, Q' (f x) S → te (setD (unsetD ρ vs) vs (g x)) S Q') → acc.length + l.length ≤ 100000 → Q (acc ++ l.map f) S → lcT vs tdYes te ρ (l.map fun x => .tup (g x)) acc S Q
  | [], acc, S, _, _, q => by
    rw [List.map_nil, List.append_nil] at q
    exact q
  | x :: l, acc, S, ht, hz, q => by
    rw [List.length_cons] at hz
    rw [List.map_cons]
    unfold lcT
    refine ⟨g x, rfl, hl x, ?_⟩
    show if true = true then (te (setD (unsetD ρ vs) vs (g x)) S fun y S2 => acc.length < sizeLine ∧ lcT vs tdYes te ρ (l.map fun x => .tup (g x)) (acc ++ [y]) S2 Q) else (lcT vs tdYes te ρ (l.map fun x => .tup (g x)) acc S Q)
    refine iteT (ht x List.mem_cons_self _ ⟨Nat.lt_of_lt_of_le (show acc.length < 100001 by omega) (sz5 (by omega)), ?_⟩)
    refine lcT_m f g hl l (acc ++ [f x]) S (fun k hk => ht k (List.mem_cons_of_mem _ hk)) (by rw [List.length_append]; show acc.length + 1 + l.length ≤ _; omega) ?_
    rw [List.append_assoc]
    exact q
end
end DL
namespace DL
open PySem PySem.Spec L2
section
variable {X : Cx}
def gCatB : DOp := fun S x y Q => match vw S x, vw S y with
  | .lst xs, .lst ys => xs.length + ys.length ≤ sizeLine ∧ ∀ p, S p = none → Q (.ref p) (sup S p (.lst (xs ++ ys)))
  | _, _ => False
theorem od_catB : OpR X (binaryOp .Add) (OL X.K gCatB) := by
  refine OpR.weak op_cat fun x y H Q ⟨F, S, dx, dy, Q', sr, rx, ry, g, p⟩ => ?_
  unfold gCatB at g
  split at g
  · rename_i a b e1 e2
    obtain ⟨p1, v1, rfl, h1, k1⟩ := vw_lst sr rx e1
    obtain ⟨p2, v2, rfl, h2, k2⟩ := vw_lst sr ry e2
    refine ⟨p1, p2, v1, v2, rfl, rfl, h1, h2, by rw [k1.length, k2.length]; exact g.1, fun q hq => ?_⟩
    exact p.of (sr.ext_box (o := .lst (a ++ b)) hq) (sr.box (o := .lst (a ++ b)) hq ⟨_, rfl, k1.append k2⟩) (.ref_i _) (g.2 q (sr.snone hq))
  · exact g.elim
end
theorem gEq_bb {f : Bool → Bool} {S : Store} {x y : Bool} {Q : D → Store → Prop} : gEq f S (.bl x) (.bl y) Q = Q (.bl (f (decide (x = y)))) S := by
  unfold gEq
  rfl
end DL
namespace DL
open PySem PySem.Spec L2
theorem lookup_relabel_free {env : Env} {p : (Str × NameKind) → Bool} : ∀ {names : List (Str × NameKind)} {x : Str}, names.lookup x = some .cell ∨ names.lookup x = some .free →
    (names.map fun y => if p y = true then (y.1, NameKind.cell) else y).lookup x = some .cell ∨ (names.map fun y => if p y = true then (y.1, NameKind.cell) else y).lookup x = some .free
  | [], x, h => by simp at h
  | (n, k) :: r, x, h => by
    rw [List.map_cons]
    have ih := @lookup_relabel_free env p r x
    by_cases hp : p (n, k) = true
    · rw [if_pos hp]
      show ((n, NameKind.cell) :: _).lookup x = _ ∨ ((n, NameKind.cell) :: _).lookup x = _
      rw [List.lookup_cons] at h ⊢
      by_cases e : (x == n) = true
      · rw [e]; exact .inl rfl
      · rw [Bool.eq_false_iff.mpr e] at h ⊢
        exact ih h
    · rw [if_neg hp]
      rw [List.lookup_cons] at h ⊢
      by_cases e : (x == n) = true
      · rw [e] at h ⊢; exact h
      · rw [Bool.eq_false_iff.mpr e] at h ⊢
        exact ih h
theorem blkOk_in {N : List Str} {sc scope : Scope} {own : List (Str × Nat)} {env : Env} (h : BlkOk N sc scope own) : BlkOk N (relabel sc env) scope own :=
  ⟨h.kind, h.uniq, h.ix, fun y hy e => lookup_relabel_free (env := env) (p := fun y => (y.2 == NameKind.free && env.scope.kind == .function && env.kindOf y.1 == some .cell)) (h.free y hy e), h.own⟩
end DL
namespace DL
open PySem PySem.Spec L2
section
variable {X : Cx} {F0 : Ent}
theorem sw_trueD {kx vx : Expr} {gs : List Comprehension} {scope : Scope} {pos py : Pos} {y : Str} {l : Nat} {env : Env} (hk : env.scope.kind = .function) (hy : env.scope.names.lookup y = some .local) (hl : (py.line == pos.line) = true)
    (ha : (scope.names.any fun (n, k) => n == y && (k == .local || k == .cell)) = false) : swapsWith (.DictComp kx vx gs scope pos) (some (.Name y py)) l env = pure true := by
  have ky : env.kindOf y = some .local := hy
  have hb : env.blockKind = .function := by unfold Env.blockKind; rw [hk]; rfl
  unfold swapsWith
  simp only [hb, ky, ha, Expr.pos, hl]
  rfl
theorem ps_setDc {i : Nat} {y : Str} {py : Pos} {kx vx tg iter : Expr} {ifs : List Expr} {scope : Scope} {own : List (Str × Nat)} {pos spos : Pos} {wi : TI} {g : TG} {tt : TT} {tk te : TE} (hc : X.calm = true) (hN : X.N.Nodup) (hy : X.N[i]? = some y) (hyl : X.env.scope.names.lookup y = some .local)
    (hsw : swapsWith (.DictComp kx vx [⟨tg, iter, ifs, 0⟩] scope pos) (some (.Name y py)) spos.line X.env = pure true) (hi : PI X tg iter wi) (ok : BlkOk X.N X.env.scope scope own)
    (hg : ∀ (s : Shared) (H : Hp) (C : Addr) (cl : List (Str × Addr)) (fp : List Addr), PG (X.blk s H scope (compEnvC scope cl C X.env) fp) tg g) (ht : ∀ (s : Shared) (H : Hp) (C : Addr) (cl : List (Str × Addr)) (fp : List Addr), PTs (X.blk s H scope (compEnvC scope cl C X.env) fp) ifs tt)
    (hk : ∀ (s : Shared) (H : Hp) (C : Addr) (cl : List (Str × Addr)) (fp : List Addr), PE (X.blk s H scope (compEnvC scope cl C X.env) fp) kx tk)
    (he : ∀ (s : Shared) (H : Hp) (C : Addr) (cl : List (Str × Addr)) (fp : List Addr), PE (X.blk s H scope (compEnvC scope cl C X.env) fp) vx te) (hs : ∀ x, foldedSetIterable iter X.env x = pure x := by intro _; rfl) :
    PS X (.Assign [.Name y py] (.DictComp kx vx [⟨tg, iter, ifs, 0⟩] scope pos) spos) (tAsg (tDc wi g tt tk te (own.map (·.2))) (gName i)) := by
  refine ⟨fun pins s σ H D I h => ?_⟩
  rw [exec_Assign_Name_used _ _ _ _ hsw]
  refine wpAny_bind (wpAny_standAt (wpAny_bind ?_))
  show wpAny _ X.A (do let _ ← comprehension (.DictComp kx vx [⟨tg, iter, ifs, 0⟩] scope pos) scope X.env (firstIterPos [⟨tg, iter, ifs, 0⟩] pos) newDict false (eval iter X.env) (some (assign (.Name y py) X.env))) _ _ s
  have h : tDc wi g tt tk te (own.map (·.2)) σ H (fun x H1 => gName i x σ H1 D.nx) := h
  refine wpAny_bind (thn (dc_core (Qf := fun _ s' => SP X pins D .next s') hc hN I hi ok hg ht hk he hs h fun L C s' m H' I' q hn f => ?_) fun _ s' hq => wpAny_pure (wpAny_pure hq))
  show wpAny _ _ (assign (.Name y py) X.env (.ref L)) _ _ _
  refine wpAny_assign_Name (store_ok2 (v := V.ref L) I' hN hy (.inl hyl) rfl (fun s2 I2 ⟨a, sb, ha⟩ => ?_) (.inr hyl))
  obtain ⟨f0, f1, f2, f3, f4, f5⟩ := f
  have haC : C ≠ a := by
    rcases ha with z | z
    · rw [z]; exact f1
    · exact fun e => f4 y a z e.symm
  refine ⟨m, hn.sameBut sb haC, fun h3 sb3 => ?_⟩
  exact ⟨_, H', I2.turned (t' := s2.toks) (fun b o hb e => (sb3.2 b hb).trans e) f0 f1 f3 f4 f5, q⟩
theorem ps_setDcN {i : Nat} {y : Str} {py : Pos} {kx vx tg iter : Expr} {ifs : List Expr} {scope : Scope} {own : List (Str × Nat)} {pos spos : Pos} {wi : TI} {g : TG} {tt : TT} {tk te : TE} (hu : X.A.units + 9 < cLine) (hc : X.calm = true) (hN : X.N.Nodup) (hy : X.N[i]? = some y) (hyl : X.env.scope.names.lookup y = some .local)
    (hsw : swapsWith (.DictComp kx vx [⟨tg, iter, ifs, 0⟩] scope pos) (some (.Name y py)) spos.line X.env = pure true) (hi : PI X tg iter wi) (ok : BlkOk X.N X.env.scope scope own)
    (hg : ∀ (s : Shared) (H : Hp) (C : Addr) (cl : List (Str × Addr)) (fp : List Addr), PG (X.blk s H scope (compEnvC scope cl C X.env) fp) tg g) (ht : ∀ (s : Shared) (H : Hp) (C : Addr) (cl : List (Str × Addr)) (fp : List Addr), PTs (X.blk s H scope (compEnvC scope cl C X.env) fp) ifs tt)
    (hk : ∀ (s : Shared) (H : Hp) (C : Addr) (cl : List (Str × Addr)) (fp : List Addr), PE (X.blk s H scope (compEnvC scope cl C X.env) fp) kx tk)
    (he : ∀ (s : Shared) (H : Hp) (C : Addr) (cl : List (Str × Addr)) (fp : List Addr), PE (X.blk s H scope (compEnvC scope cl C X.env) fp) vx te) (hs : ∀ x, foldedSetIterable iter X.env x = pure x := by intro _; rfl) :
    PS X (.Assign [.Name y py] (.DictComp kx vx [⟨tg, iter, ifs, 0⟩] scope pos) spos) (tAsg (tDcN X.K X.w wi g tt tk te (own.map (·.2))) (gName i)) := by
  refine ⟨fun pins s σ H D I h => ?_⟩
  rw [exec_Assign_Name_used _ _ _ _ hsw]
  refine wpAny_bind (wpAny_standAt (wpAny_bind ?_))
  show wpAny _ X.A (do let _ ← comprehension (.DictComp kx vx [⟨tg, iter, ifs, 0⟩] scope pos) scope X.env (firstIterPos [⟨tg, iter, ifs, 0⟩] pos) newDict false (eval iter X.env) (some (assign (.Name y py) X.env))) _ _ s
  have h : tDcN X.K X.w wi g tt tk te (own.map (·.2)) σ H (fun x H1 => gName i x σ H1 D.nx) := h
  refine wpAny_bind (thn (dcn_core (Qf := fun _ s' => SP X pins D .next s') hu hc hN I hi ok hg ht hk he hs h fun L C s' m H' I' q hn f => ?_) fun _ s' hq => wpAny_pure (wpAny_pure hq))
  show wpAny _ _ (assign (.Name y py) X.env (.ref L)) _ _ _
  refine wpAny_assign_Name (store_ok2 (v := V.ref L) I' hN hy (.inl hyl) rfl (fun s2 I2 ⟨a, sb, ha⟩ => ?_) (.inr hyl))
  obtain ⟨f0, f1, f2, f3, f4, f5⟩ := f
  have haC : C ≠ a := by
    rcases ha with z | z
    · rw [z]; exact f1
    · exact fun e => f4 y a z e.symm
  refine ⟨m, hn.sameBut sb haC, fun h3 sb3 => ?_⟩
  exact ⟨_, H', I2.turned (t' := s2.toks) (fun b o hb e => (sb3.2 b hb).trans e) f0 f1 f3 f4 f5, q⟩
theorem ds_setDc (i : Nat) {y : Str} {py : Pos} {kx vx iter : Expr} {ifs : List Expr} {scope : Scope} {x : Str} {xp spos pos : Pos} {v : Nat} {ti : TDI} {tt : TDT} {tk te : TD} (hc : X.calm = true) (hN : X.N.Nodup) (hy : X.N[i]? = some y) (hyl : X.env.scope.names.lookup y = some .local)
    (hsw : swapsWith (.DictComp kx vx [⟨.Name x xp, iter, ifs, 0⟩] scope pos) (some (.Name y py)) spos.line X.env = pure true) (hi : DI X F0 (.Name x xp) iter ti) (ok : BlkOk X.N X.env.scope scope [(x, v)])
    (hg : ∀ (s : Shared) (H : Hp) (C : Addr) (cl : List (Str × Addr)) (fp : List Addr), PG (X.blk s H scope (compEnvC scope cl C X.env) fp) (.Name x xp) (gName v))
    (ht : ∀ (s : Shared) (H : Hp) (C : Addr) (cl : List (Str × Addr)) (fp : List Addr), DTs (X.blk s H scope (compEnvC scope cl C X.env) fp) F0 ifs tt)
    (hk : ∀ (s : Shared) (H : Hp) (C : Addr) (cl : List (Str × Addr)) (fp : List Addr), DE (X.blk s H scope (compEnvC scope cl C X.env) fp) F0 kx tk)
    (he : ∀ (s : Shared) (H : Hp) (C : Addr) (cl : List (Str × Addr)) (fp : List Addr), DE (X.blk s H scope (compEnvC scope cl C X.env) fp) F0 vx te) (hs : ∀ x, foldedSetIterable iter X.env x = pure x := by intro _; rfl) :
    DS X F0 (.Assign [.Name y py] (.DictComp kx vx [⟨.Name x xp, iter, ifs, 0⟩] scope pos) spos) (tdAsg (tdDc ti v tt tk te) (gdName i)) :=
  PS.weak (ps_setDc (own := [(x, v)]) (tt := TL X.K F0 tt) (tk := EL X.K F0 tk) (te := EL X.K F0 te) hc hN hy hyl hsw hi ok hg ht hk he hs) fun D σ H ⟨F, S, ρ, D', a, h, p⟩ => by
    show tDc _ _ _ _ _ _ σ H _
    exact dc_go (EL.go a h fun w H1 F1 S1 d x1 a1 r1 q1 => p.1 _ _ _ _ _ x1 a1.sr (a1.env.set r1 i) q1)
theorem ds_setDcN (i : Nat) {w : World} {y : Str} {py : Pos} {kx vx iter : Expr} {ifs : List Expr} {scope : Scope} {x : Str} {xp spos pos : Pos} {v : Nat} {ti : TDI} {tt : TDT} {tk te : TD} (hw : X.w = w) (hu : X.A.units + 65 < cLine) (hc : X.calm = true) (hN : X.N.Nodup) (hy : X.N[i]? = some y) (hyl : X.env.scope.names.lookup y = some .local)
    (hsw : swapsWith (.DictComp kx vx [⟨.Name x xp, iter, ifs, 0⟩] scope pos) (some (.Name y py)) spos.line X.env = pure true) (hi : DI X F0 (.Name x xp) iter ti) (ok : BlkOk X.N X.env.scope scope [(x, v)])
    (hg : ∀ (s : Shared) (H : Hp) (C : Addr) (cl : List (Str × Addr)) (fp : List Addr), PG (X.blk s H scope (compEnvC scope cl C X.env) fp) (.Name x xp) (gName v))
    (ht : ∀ (s : Shared) (H : Hp) (C : Addr) (cl : List (Str × Addr)) (fp : List Addr), DTs (X.blk s H scope (compEnvC scope cl C X.env) fp) F0 ifs tt)
    (hk : ∀ (s : Shared) (H : Hp) (C : Addr) (cl : List (Str × Addr)) (fp : List Addr), DE (X.blk s H scope (compEnvC scope cl C X.env) fp) F0 kx tk)
    (he : ∀ (s : Shared) (H : Hp) (C : Addr) (cl : List (Str × Addr)) (fp : List Addr), DE (X.blk s H scope (compEnvC scope cl C X.env) fp) F0 vx te) (hs : ∀ x, foldedSetIterable iter X.env x = pure x := by intro _; rfl) :
    DS X F0 (.Assign [.Name y py] (.DictComp kx vx [⟨.Name x xp, iter, ifs, 0⟩] scope pos) spos) (tdAsg (tdDcN w ti v tt tk te) (gdName i)) := by
  subst hw
  exact PS.weak (ps_setDcN (own := [(x, v)]) (tt := TL X.K F0 tt) (tk := EL X.K F0 tk) (te := EL X.K F0 te) (by omega) hc hN hy hyl hsw hi ok hg ht hk he hs) fun D σ H ⟨F, S, ρ, D', a, h, p⟩ => by
    show tDcN _ _ _ _ _ _ _ _ σ H _
    exact dn_go (EL.go a h fun w H1 F1 S1 d x1 a1 r1 q1 => p.1 _ _ _ _ _ x1 a1.sr (a1.env.set r1 i) q1)
end
end DL
namespace DL
open PySem PySem.Spec L2
section
variable {X : Cx} {F0 : Ent} {k : Nat} {E' : XD}
theorem BC.nox (B : BC X F0 k E') : BC X.nox F0 k noX := BC.none B.room B.calm
theorem ds_try0 {body : List Stmt} {h : ExceptHandler} {hs : List ExceptHandler} {pos : Pos} {t : TDS} (hb : DSs X.nox F0 body t) : DS X F0 (.Try body (h :: hs) [] [] pos) t := ps_try_thru0 hb
end
end DL
namespace K06
open PySem PySem.Spec L2 DL
def top (i : Nat) : Stmt := PySem.Challenge.pw_chiplore_k06_whole_knowing_of_designs.main.body.getD i (.Pass ⟨0, 0, 0, 0⟩)
abbrev st_ends_of : Stmt := top 6
abbrev N_ends_of : List Str := ["net", "_", "literal"]
theorem sc_ends_of : FnScope N_ends_of ["net"] (defScope st_ends_of) := ⟨rfl, rfl, rfl, by decide +kernel, rfl, by decide +kernel, by decide +kernel⟩
theorem nd_ends_of : N_ends_of.Nodup := sc_ends_of.nd
abbrev st_values_of : Stmt := top 7
abbrev N_values_of : List Str := ["net", "row", "stuck", "found", "node", "first", "second"]
theorem sc_values_of : FnScope N_values_of ["net", "row", "stuck"] (defScope st_values_of) := ⟨rfl, rfl, rfl, by decide +kernel, rfl, by decide +kernel, by decide +kernel⟩
theorem nd_values_of : N_values_of.Nodup := sc_values_of.nd
abbrev st_literal_value : Stmt := top 8
abbrev N_literal_value : List Str := ["found", "literal"]
theorem sc_literal_value : FnScope N_literal_value ["found", "literal"] (defScope st_literal_value) := ⟨rfl, rfl, rfl, by decide +kernel, rfl, by decide +kernel, by decide +kernel⟩
theorem nd_literal_value : N_literal_value.Nodup := sc_literal_value.nd
abbrev st_value_rows : Stmt := top 10
abbrev N_value_rows : List Str := ["count", "found", "_", "row", "value"]
theorem sc_value_rows : FnScope N_value_rows ["count"] (defScope st_value_rows) := ⟨rfl, rfl, rfl, by decide +kernel, rfl, by decide +kernel, by decide +kernel⟩
theorem nd_value_rows : N_value_rows.Nodup := sc_value_rows.nd
abbrev st_first_state : Stmt := top 11
abbrev N_first_state : List Str := ["net", "_", "value"]
theorem sc_first_state : FnScope N_first_state ["net"] (defScope st_first_state) := ⟨rfl, rfl, rfl, by decide +kernel, rfl, by decide +kernel, by decide +kernel⟩
theorem nd_first_state : N_first_state.Nodup := sc_first_state.nd
abbrev st_clock : Stmt := top 12
abbrev N_clock : List Str := ["net", "state", "inputs", "values", "ends", "literal"]
theorem sc_clock : FnScope N_clock ["net", "state", "inputs"] (defScope st_clock) := ⟨rfl, rfl, rfl, by decide +kernel, rfl, by decide +kernel, by decide +kernel⟩
theorem nd_clock : N_clock.Nodup := sc_clock.nd
abbrev st_place_of : Stmt := top 13
abbrev N_place_of : List Str := ["net", "name", "names", "other", "_"]
theorem sc_place_of : FnScope N_place_of ["net", "name"] (defScope st_place_of) := ⟨rfl, rfl, rfl, by decide +kernel, rfl, by decide +kernel, by decide +kernel⟩
theorem nd_place_of : N_place_of.Nodup := sc_place_of.nd
abbrev st_Seeing___init__ : Stmt := inClass (top 15) 0
abbrev N_Seeing___init__ : List Str := ["self", "net", "observers", "length", "places", "name", "who", "_", "run", "inputs", "state", "told", "outputs", "place"]
theorem sc_Seeing___init__ : FnScope N_Seeing___init__ ["self", "net", "observers", "length"] (defScope st_Seeing___init__) := ⟨rfl, rfl, rfl, by decide +kernel, rfl, by decide +kernel, by decide +kernel⟩
theorem nd_Seeing___init__ : N_Seeing___init__.Nodup := sc_Seeing___init__.nd
abbrev st_Seeing_where : Stmt := inClass (top 15) 1
abbrev N_Seeing_where : List Str := ["self", "claim", "runs", "word", "run", "one", "after", "met", "other"]
theorem sc_Seeing_where : FnScope N_Seeing_where ["self", "claim", "runs"] (defScope st_Seeing_where) := ⟨rfl, rfl, rfl, by decide +kernel, rfl, by decide +kernel, by decide +kernel⟩
theorem nd_Seeing_where : N_Seeing_where.Nodup := sc_Seeing_where.nd
abbrev st_Seeing_check : Stmt := inClass (top 15) 2
abbrev N_Seeing_check : List Str := ["self", "claim", "part"]
theorem sc_Seeing_check : FnScope N_Seeing_check ["self", "claim"] (defScope st_Seeing_check) := ⟨rfl, rfl, rfl, by decide +kernel, rfl, by decide +kernel, by decide +kernel⟩
theorem nd_Seeing_check : N_Seeing_check.Nodup := sc_Seeing_check.nd
abbrev st_Seeing_observer : Stmt := inClass (top 15) 3
abbrev N_Seeing_observer : List Str := ["self", "who"]
theorem sc_Seeing_observer : FnScope N_Seeing_observer ["self", "who"] (defScope st_Seeing_observer) := ⟨rfl, rfl, rfl, by decide +kernel, rfl, by decide +kernel, by decide +kernel⟩
theorem nd_Seeing_observer : N_Seeing_observer.Nodup := sc_Seeing_observer.nd
abbrev st_Seeing_knows : Stmt := inClass (top 15) 4
abbrev N_Seeing_knows : List Str := ["self", "who", "good", "runs", "met", "run", "doubts"]
theorem sc_Seeing_knows : FnScope N_Seeing_knows ["self", "who", "good", "runs"] (defScope st_Seeing_knows) := ⟨rfl, rfl, rfl, by decide +kernel, rfl, by decide +kernel, by decide +kernel⟩
theorem nd_Seeing_knows : N_Seeing_knows.Nodup := sc_Seeing_knows.nd
abbrev st_known_after : Stmt := top 16
abbrev N_known_after : List Str := ["net", "observers", "run", "claim", "seeing"]
theorem sc_known_after : FnScope N_known_after ["net", "observers", "run", "claim"] (defScope st_known_after) := ⟨rfl, rfl, rfl, by decide +kernel, rfl, by decide +kernel, by decide +kernel⟩
theorem nd_known_after : N_known_after.Nodup := sc_known_after.nd
abbrev st_doubt : Stmt := top 17
abbrev N_doubt : List Str := ["net", "observers", "run", "who", "claim", "seeing", "good", "each", "other"]
theorem sc_doubt : FnScope N_doubt ["net", "observers", "run", "who", "claim"] (defScope st_doubt) := ⟨rfl, rfl, rfl, by decide +kernel, rfl, by decide +kernel, by decide +kernel⟩
theorem nd_doubt : N_doubt.Nodup := sc_doubt.nd
abbrev st_beliefs : Stmt := top 18
abbrev N_beliefs : List Str := ["net", "seen", "told", "places", "name", "states", "row", "found", "state", "inputs", "outputs", "other", "place"]
theorem sc_beliefs : FnScope N_beliefs ["net", "seen", "told"] (defScope st_beliefs) := ⟨rfl, rfl, rfl, by decide +kernel, rfl, by decide +kernel, by decide +kernel⟩
theorem nd_beliefs : N_beliefs.Nodup := sc_beliefs.nd
abbrev st__law_next : Stmt := top 20
abbrev N__law_next : List Str := ["state", "limit", "cell", "value"]
theorem sc__law_next : FnScope N__law_next ["state", "limit"] (defScope st__law_next) := ⟨rfl, rfl, rfl, by decide +kernel, rfl, by decide +kernel, by decide +kernel⟩
theorem nd__law_next : N__law_next.Nodup := sc__law_next.nd
abbrev st__law_same : Stmt := top 21
abbrev N__law_same : List Str := ["actual", "expected", "k"]
theorem sc__law_same : FnScope N__law_same ["actual", "expected"] (defScope st__law_same) := ⟨rfl, rfl, rfl, by decide +kernel, rfl, by decide +kernel, by decide +kernel⟩
theorem nd__law_same : N__law_same.Nodup := sc__law_same.nd
abbrev st__law_turned : Stmt := top 22
abbrev N__law_turned : List Str := ["literal"]
theorem sc__law_turned : FnScope N__law_turned ["literal"] (defScope st__law_turned) := ⟨rfl, rfl, rfl, by decide +kernel, rfl, by decide +kernel, by decide +kernel⟩
theorem nd__law_turned : N__law_turned.Nodup := sc__law_turned.nd
abbrev st__law_conj : Stmt := top 23
abbrev N__law_conj : List Str := ["gates", "start", "one", "two", "low", "high"]
theorem sc__law_conj : FnScope N__law_conj ["gates", "start", "one", "two"] (defScope st__law_conj) := ⟨rfl, rfl, rfl, by decide +kernel, rfl, by decide +kernel, by decide +kernel⟩
theorem nd__law_conj : N__law_conj.Nodup := sc__law_conj.nd
abbrev st__law_step : Stmt := top 24
abbrev N__law_step : List Str := ["gates", "start", "word", "one", "two", "other", "both", "left", "right"]
theorem sc__law_step : FnScope N__law_step ["gates", "start", "word", "one", "two", "other"] (defScope st__law_step) := ⟨rfl, rfl, rfl, by decide +kernel, rfl, by decide +kernel, by decide +kernel⟩
theorem nd__law_step : N__law_step.Nodup := sc__law_step.nd
abbrev st__law_trimmed : Stmt := top 25
abbrev N__law_trimmed : List Str := ["start", "gates", "ends", "used", "literal", "k", "numbers", "node", "kept"]
theorem sc__law_trimmed : FnScope N__law_trimmed ["start", "gates", "ends"] (defScope st__law_trimmed) := ⟨rfl, rfl, rfl, by decide +kernel, rfl, by decide +kernel, by decide +kernel⟩
theorem nd__law_trimmed : N__law_trimmed.Nodup := sc__law_trimmed.nd
abbrev st__law_design : Stmt := top 26
abbrev N__law_design : List Str := ["state", "inputs", "registers", "most", "steps", "sources", "k", "word", "first", "second", "ends", "pick", "firsts"]
theorem sc__law_design : FnScope N__law_design ["state", "inputs", "registers", "most"] (defScope st__law_design) := ⟨rfl, rfl, rfl, by decide +kernel, rfl, by decide +kernel, by decide +kernel⟩
theorem nd__law_design : N__law_design.Nodup := sc__law_design.nd
abbrev st__law_net : Stmt := top 27
abbrev N__law_net : List Str := ["design", "other", "inputs", "firsts", "steps", "ends", "start", "gates", "signals", "k", "word", "one", "two", "literals", "place", "turn", "told", "kept", "count", "names", "registers", "outputs"]
theorem sc__law_net : FnScope N__law_net ["design", "other"] (defScope st__law_net) := ⟨rfl, rfl, rfl, by decide +kernel, rfl, by decide +kernel, by decide +kernel⟩
theorem nd__law_net : N__law_net.Nodup := sc__law_net.nd
abbrev st__law_values : Stmt := top 28
abbrev N__law_values : List Str := ["net", "row", "stuck", "found", "node", "one", "two"]
theorem sc__law_values : FnScope N__law_values ["net", "row", "stuck"] (defScope st__law_values) := ⟨rfl, rfl, rfl, by decide +kernel, rfl, by decide +kernel, by decide +kernel⟩
theorem nd__law_values : N__law_values.Nodup := sc__law_values.nd
abbrev st__law_clock : Stmt := top 29
abbrev N__law_clock : List Str := ["net", "state", "inputs", "stuck", "found", "outputs", "name", "literal"]
theorem sc__law_clock : FnScope N__law_clock ["net", "state", "inputs", "stuck"] (defScope st__law_clock) := ⟨rfl, rfl, rfl, by decide +kernel, rfl, by decide +kernel, by decide +kernel⟩
theorem nd__law_clock : N__law_clock.Nodup := sc__law_clock.nd
abbrev st__law_first : Stmt := top 30
abbrev N__law_first : List Str := ["net", "name", "value"]
theorem sc__law_first : FnScope N__law_first ["net"] (defScope st__law_first) := ⟨rfl, rfl, rfl, by decide +kernel, rfl, by decide +kernel, by decide +kernel⟩
theorem nd__law_first : N__law_first.Nodup := sc__law_first.nd
abbrev st__law_all_rows : Stmt := top 31
abbrev N__law_all_rows : List Str := ["count", "found", "k", "longer", "row"]
theorem sc__law_all_rows : FnScope N__law_all_rows ["count"] (defScope st__law_all_rows) := ⟨rfl, rfl, rfl, by decide +kernel, rfl, by decide +kernel, by decide +kernel⟩
theorem nd__law_all_rows : N__law_all_rows.Nodup := sc__law_all_rows.nd
abbrev st__law_value : Stmt := top 32
abbrev N__law_value : List Str := ["claim", "known", "one", "other"]
theorem sc__law_value : FnScope N__law_value ["claim", "known"] (defScope st__law_value) := ⟨rfl, rfl, rfl, by decide +kernel, rfl, by decide +kernel, by decide +kernel⟩
theorem nd__law_value : N__law_value.Nodup := sc__law_value.nd
abbrev st__law_claim : Stmt := top 33
abbrev N__law_claim : List Str := ["state", "words", "depth", "pick", "first"]
theorem sc__law_claim : FnScope N__law_claim ["state", "words", "depth"] (defScope st__law_claim) := ⟨rfl, rfl, rfl, by decide +kernel, rfl, by decide +kernel, by decide +kernel⟩
theorem nd__law_claim : N__law_claim.Nodup := sc__law_claim.nd
abbrev st__law_holds : Stmt := top 34
abbrev N__law_holds : List Str := ["state", "net", "outputs", "name", "literal", "seen", "observers", "rows", "run", "k", "registers", "value", "one", "other", "now", "looks", "row", "values", "is_so", "knows", "known", "both", "who", "states", "holds"]
theorem sc__law_holds : FnScope N__law_holds ["state"] (defScope st__law_holds) := ⟨rfl, rfl, rfl, by decide +kernel, rfl, by decide +kernel, by decide +kernel⟩
theorem nd__law_holds : N__law_holds.Nodup := sc__law_holds.nd
abbrev st_law : Stmt := top 35
abbrev N_law : List Str := ["script"]
theorem sc_law : FnScope N_law ["script"] (defScope st_law) := ⟨rfl, rfl, rfl, by decide +kernel, rfl, by decide +kernel, by decide +kernel⟩
theorem nd_law : N_law.Nodup := sc_law.nd
theorem zs_NONE : [("none" : Str)] = [tx "none"].map tS := by simp [ofString_tx]
structure Zf (P : Program) (w : World) (K : PySem.W.Frag) (mg : Str → Option Value) (base : Heap) : Prop where
  f_bool : mg "bool" = none
  f_dict : mg "dict" = none
  f_int : mg "int" = none
  f_isinstance : mg "isinstance" = none
  f_len : mg "len" = none
  f_list : mg "list" = none
  f_max : mg "max" = none
  f_min : mg "min" = none
  f_range : mg "range" = none
  f_sorted : mg "sorted" = none
  f_str : mg "str" = none
  f_tuple : mg "tuple" = none
  f_zip : mg "zip" = none
  g_ends_of : mg "ends_of" = some (.ref (He.ga K "ends_of"))
  F_ends_of : ∃ fd, Fun K "ends_of" "ends_of" st_ends_of (He.ga K "ends_of") fd ∧ Binds K fd ["net"] []
  g_values_of : mg "values_of" = some (.ref (He.ga K "values_of"))
  F_values_of : ∃ fd, FunD K "values_of" "values_of" (defArgs st_values_of) (defBody st_values_of) (defScope st_values_of) [V.non] [] (He.ga K "values_of") fd ∧ ∃ ds, Vals [V.non] ds ∧ Binds K fd ["net", "row", "stuck"] ds
  g_literal_value : mg "literal_value" = some (.ref (He.ga K "literal_value"))
  F_literal_value : ∃ fd, Fun K "literal_value" "literal_value" st_literal_value (He.ga K "literal_value") fd ∧ Binds K fd ["found", "literal"] []
  g_value_rows : mg "value_rows" = some (.ref (He.ga K "value_rows"))
  F_value_rows : ∃ fd, Fun K "value_rows" "value_rows" st_value_rows (He.ga K "value_rows") fd ∧ Binds K fd ["count"] []
  g_first_state : mg "first_state" = some (.ref (He.ga K "first_state"))
  F_first_state : ∃ fd, Fun K "first_state" "first_state" st_first_state (He.ga K "first_state") fd ∧ Binds K fd ["net"] []
  g_clock : mg "clock" = some (.ref (He.ga K "clock"))
  F_clock : ∃ fd, Fun K "clock" "clock" st_clock (He.ga K "clock") fd ∧ Binds K fd ["net", "state", "inputs"] []
  g_place_of : mg "place_of" = some (.ref (He.ga K "place_of"))
  F_place_of : ∃ fd, Fun K "place_of" "place_of" st_place_of (He.ga K "place_of") fd ∧ Binds K fd ["net", "name"] []
  F_Seeing___init__ : ∃ fd, Fun K "__init__" "Seeing.__init__" st_Seeing___init__ (He.ma K (He.ga K "Seeing") "__init__") fd ∧ Binds K fd ["self", "net", "observers", "length"] []
  F_Seeing_where : ∃ fd, Fun K "where" "Seeing.where" st_Seeing_where (He.ma K (He.ga K "Seeing") "where") fd ∧ Binds K fd ["self", "claim", "runs"] []
  F_Seeing_check : ∃ fd, Fun K "check" "Seeing.check" st_Seeing_check (He.ma K (He.ga K "Seeing") "check") fd ∧ Binds K fd ["self", "claim"] []
  F_Seeing_observer : ∃ fd, Fun K "observer" "Seeing.observer" st_Seeing_observer (He.ma K (He.ga K "Seeing") "observer") fd ∧ Binds K fd ["self", "who"] []
  F_Seeing_knows : ∃ fd, Fun K "knows" "Seeing.knows" st_Seeing_knows (He.ma K (He.ga K "Seeing") "knows") fd ∧ Binds K fd ["self", "who", "good", "runs"] []
  g_known_after : mg "known_after" = some (.ref (He.ga K "known_after"))
  F_known_after : ∃ fd, Fun K "known_after" "known_after" st_known_after (He.ga K "known_after") fd ∧ Binds K fd ["net", "observers", "run", "claim"] []
  g_doubt : mg "doubt" = some (.ref (He.ga K "doubt"))
  F_doubt : ∃ fd, Fun K "doubt" "doubt" st_doubt (He.ga K "doubt") fd ∧ Binds K fd ["net", "observers", "run", "who", "claim"] []
  g_beliefs : mg "beliefs" = some (.ref (He.ga K "beliefs"))
  F_beliefs : ∃ fd, Fun K "beliefs" "beliefs" st_beliefs (He.ga K "beliefs") fd ∧ Binds K fd ["net", "seen", "told"] []
  g__law_next : mg "_law_next" = some (.ref (He.ga K "_law_next"))
  F__law_next : ∃ fd, Fun K "_law_next" "_law_next" st__law_next (He.ga K "_law_next") fd ∧ Binds K fd ["state", "limit"] []
  g__law_same : mg "_law_same" = some (.ref (He.ga K "_law_same"))
  F__law_same : ∃ fd, Fun K "_law_same" "_law_same" st__law_same (He.ga K "_law_same") fd ∧ Binds K fd ["actual", "expected"] []
  g__law_turned : mg "_law_turned" = some (.ref (He.ga K "_law_turned"))
  F__law_turned : ∃ fd, Fun K "_law_turned" "_law_turned" st__law_turned (He.ga K "_law_turned") fd ∧ Binds K fd ["literal"] []
  g__law_conj : mg "_law_conj" = some (.ref (He.ga K "_law_conj"))
  F__law_conj : ∃ fd, Fun K "_law_conj" "_law_conj" st__law_conj (He.ga K "_law_conj") fd ∧ Binds K fd ["gates", "start", "one", "two"] []
  g__law_step : mg "_law_step" = some (.ref (He.ga K "_law_step"))
  F__law_step : ∃ fd, Fun K "_law_step" "_law_step" st__law_step (He.ga K "_law_step") fd ∧ Binds K fd ["gates", "start", "word", "one", "two", "other"] []
  g__law_trimmed : mg "_law_trimmed" = some (.ref (He.ga K "_law_trimmed"))
  F__law_trimmed : ∃ fd, Fun K "_law_trimmed" "_law_trimmed" st__law_trimmed (He.ga K "_law_trimmed") fd ∧ Binds K fd ["start", "gates", "ends"] []
  g__law_design : mg "_law_design" = some (.ref (He.ga K "_law_design"))
  F__law_design : ∃ fd, Fun K "_law_design" "_law_design" st__law_design (He.ga K "_law_design") fd ∧ Binds K fd ["state", "inputs", "registers", "most"] []
  g__law_net : mg "_law_net" = some (.ref (He.ga K "_law_net"))
  F__law_net : ∃ fd, Fun K "_law_net" "_law_net" st__law_net (He.ga K "_law_net") fd ∧ Binds K fd ["design", "other"] []
  g__law_values : mg "_law_values" = some (.ref (He.ga K "_law_values"))
  F__law_values : ∃ fd, Fun K "_law_values" "_law_values" st__law_values (He.ga K "_law_values") fd ∧ Binds K fd ["net", "row", "stuck"] []
  g__law_clock : mg "_law_clock" = some (.ref (He.ga K "_law_clock"))
  F__law_clock : ∃ fd, Fun K "_law_clock" "_law_clock" st__law_clock (He.ga K "_law_clock") fd ∧ Binds K fd ["net", "state", "inputs", "stuck"] []
  g__law_first : mg "_law_first" = some (.ref (He.ga K "_law_first"))
  F__law_first : ∃ fd, Fun K "_law_first" "_law_first" st__law_first (He.ga K "_law_first") fd ∧ Binds K fd ["net"] []
  g__law_all_rows : mg "_law_all_rows" = some (.ref (He.ga K "_law_all_rows"))
  F__law_all_rows : ∃ fd, Fun K "_law_all_rows" "_law_all_rows" st__law_all_rows (He.ga K "_law_all_rows") fd ∧ Binds K fd ["count"] []
  g__law_value : mg "_law_value" = some (.ref (He.ga K "_law_value"))
  F__law_value : ∃ fd, Fun K "_law_value" "_law_value" st__law_value (He.ga K "_law_value") fd ∧ Binds K fd ["claim", "known"] []
  g__law_claim : mg "_law_claim" = some (.ref (He.ga K "_law_claim"))
  F__law_claim : ∃ fd, Fun K "_law_claim" "_law_claim" st__law_claim (He.ga K "_law_claim") fd ∧ Binds K fd ["state", "words", "depth"] []
  g__law_holds : mg "_law_holds" = some (.ref (He.ga K "_law_holds"))
  F__law_holds : ∃ fd, Fun K "_law_holds" "_law_holds" st__law_holds (He.ga K "_law_holds") fd ∧ Binds K fd ["state"] []
  g_law : mg "law" = some (.ref (He.ga K "law"))
  F_law : ∃ fd, Fun K "law" "law" st_law (He.ga K "law") fd ∧ Binds K fd ["script"] []
  g_ChiploreError : mg "ChiploreError" = some (.ref (He.ga K "ChiploreError"))
  g_TooWide : mg "TooWide" = some (.ref (He.ga K "TooWide"))
  g_UnfitNet : mg "UnfitNet" = some (.ref (He.ga K "UnfitNet"))
  g_Seeing : mg "Seeing" = some (.ref (He.ga K "Seeing"))
  c_Seeing : Cls K (He.ga K "Seeing")
  n_Seeing_net : NoAttr K (He.ga K "Seeing") "net"
  n_Seeing_observers : NoAttr K (He.ga K "Seeing") "observers"
  n_Seeing_runs : NoAttr K (He.ga K "Seeing") "runs"
  n_Seeing_known : NoAttr K (He.ga K "Seeing") "known"
  n_Seeing_seen : NoAttr K (He.ga K "Seeing") "seen"
  m_Seeing_where : Meth K (He.ga K "Seeing") "where" (He.ma K (He.ga K "Seeing") "where")
  m_Seeing_check : Meth K (He.ga K "Seeing") "check" (He.ma K (He.ga K "Seeing") "check")
  m_Seeing_observer : Meth K (He.ga K "Seeing") "observer" (He.ma K (He.ga K "Seeing") "observer")
  m_Seeing_knows : Meth K (He.ga K "Seeing") "knows" (He.ma K (He.ga K "Seeing") "knows")
  k_Seeing : Mk K (He.ga K "Seeing") (He.ma K (He.ga K "Seeing") "__init__")
  g_NONE : mg "NONE" = some (.ref (He.ga K "NONE"))
  t_NONE : ∀ H, SqT K H (He.ga K "NONE") ([("none" : Str)].map V.str)
end K06
namespace K06
open PySem PySem.Spec L2 DL
theorem icO (a : Nat) : (1 : Int) + (a : Int) = ((1 + a : Nat) : Int) := rfl
theorem ic1 (a : Nat) : decide ((a : Int) = 1) = (a == 1) := by
  by_cases h : a = 1
  · subst h; rfl
  · rw [decide_eq_false (by omega)]
    exact (beq_eq_false_iff_ne.mpr h).symm
theorem isN0 : DL.isNon D.non = true := rfl
theorem ixN_2 {α : Type} {a b c d : α} : ixN [a, b, c, d].length 2 = some 2 := rfl
theorem ixN_3 {α : Type} {a b c d : α} : ixN [a, b, c, d].length 3 = some 3 := rfl
theorem gEq_ss {f : Bool → Bool} {S : Store} {x y : Tx} {Q : D → Store → Prop} : gEq f S (.str x) (.str y) Q = Q (.bl (f (decide (x = y)))) S := rfl
theorem gEq_ns {S : Store} {x y : Int} {Q : D → Store → Prop} : gEq not S (.int x) (.int y) Q = Q (.bl (!(decide (x = y)))) S := rfl
theorem gEq_ii {f : Bool → Bool} {S : Store} {x y : Int} {Q : D → Store → Prop} : gEq f S (.int x) (.int y) Q = Q (.bl (f (decide (x = y)))) S := rfl
local macro_rules | `(tactic| walk_at "nd") => `(tactic| simp only [icO, isN0, gCatB, gEq_bb, tdLcB, tdDNew, tdNNew, tdNGet, tdNPut, tdFGet, tdiF, tdDctF, tdDc, tdDcN, tdTru, tdDAugG, tdDictZ, tdCallV, tdLc2, ln_4, ln_5, ln_6, fmod_2, fdiv_2, gAddT, tdIdx, gdUnl, tdiD, gSortI, gMin2, gMax2, gTuple, gDictP, tdLcT, lcT, setD, unsetD, tdKGet, tdKGet2, tdGet2, tdPop, tdSeq, tdAsg, tdV, gdName, tdAnd, tdOr, tdNot, tdB, tdOp, tdCB, tdCons, tdNil, tdC, tdAug, tdSl, tdP, tdRet, tdTup, tdIf, tdIfS, gOrd, gI0, gI, gLen, gIx, gAdd, gInt, vw, ixP, gSl, tdDrop, tdRetN, tdNext, gIn_sc, gIn_ts, gIn_ls, gIn_t2, gIn_l2, gIn_l4, tdApp, sl_0, sl_1, sl_2, sl_3, sl_4, sl_5, ff, tt', true_and, id,
  eqS, tdFor, tdiT, tdiL, tdiR, tdXp, gList, gEq_ns, tdJoin, gJoin, vwS, gMul, gMod, gDiv, gPow, gI, tdAugS, gdSub, gSet, ixN_2, ixN_3, atI_3, atI_4, gEq_ss, gEq_ii, tdDict, tdPairs, tdNeg, Option.isNone_none, Option.isNone_some, gIsi, tdGet, tdDPut, tdDAug, tdIsN, tdNotN, DO.dic.injEq, Option.isNone_none, Option.isNone_some, gIn_l2, gIn_t2, Option.getD_some, tdLc, gMax, tdNoP, forR, tdRaise, tdCall, tdNotV, tdAndV, tdOrV, tdBox, tdZ, gdTup, gdCons, gdNil, tdBreak, tdCont, tdYes, icast, icast1, icast2, icast3, tdLst, gIn_l4, icastL, icastE, icastZ, ln_0, ln_1, ln_2, ln_3,
  List.getElem?_cons_zero, List.getElem?_cons_succ, List.set_cons_zero, List.set_cons_succ, Option.some.injEq, exists_eq_left', exists_eq_left, D.bl.injEq, decide_eq_true_eq,
  tdFldC, tdMeth, tdMake, tdPutF, tdAugF, D.ref.injEq, DO.ins.injEq, and_assoc, DL.gSub, D.int.injEq, D.str.injEq, sup_same, eq_self, not_true_eq_false, not_false_eq_true, Bool.false_eq_true, Bool.not_eq_true, decide_not, atIn, atI_0, atI_1, atI_2, List.getElem?_map, Option.map_some, Option.map_none, decide_true, decide_false, Bool.not_true, Bool.not_false, if_true, if_false, lm_0, lm_1, lm_2, List.length_map, exists_and_left, *])
variable {P : Program} {w : World} {K : PySem.W.Frag} {mg : Str → Option Value} {base : Heap}
/-- the drawer's state -/
def stL (ns : List Int) (p : Nat) (big seed : Int) : List D := [.lst (ns.map D.int), .int (p : Nat), .int big, .int seed]
abbrev stO (ns : List Int) (p : Nat) (big seed : Int) : DO := .lst (stL ns p big seed)
structure StOk (big seed : Int) : Prop where
  b : 0 ≤ big
  s0 : 0 ≤ seed
  s1 : seed < 2147483647
/-- a number below lim is drawn -/
def m_law_next : M := fun ds S Q E => ∃ a ns p big seed, ∃ lim : Nat, ds = [.ref a, .int (lim : Nat)] ∧ S a = some (stO ns p big seed) ∧ StOk big seed ∧ 0 < lim ∧ lim ≤ 100000 ∧
  ∀ (r p' : Nat) (big' seed' : Int), r < lim → StOk big' seed' → Q (.int (r : Nat)) (sup S a (stO ns p' big' seed'))
theorem d__law_next (Z : Zf P w K mg base) : Ca P w K mg base 1 "_law_next" ["state", "limit"] m_law_next := by
  obtain ⟨fd, F, hb⟩ := Z.F__law_next
  refine ⟨_, fd, df_of (k := 0) F sc__law_next (fun cdv A outer s H E F0 E' B => (dss_cons (ds_if (PW.pt (dw_and (dt_cmp (od_eq B.units) (de_ix (dv 0) de_int) de_int rfl) (dw_and1 (dt_cmp (od_ord op_lt) (de_ix (dv 0) de_int) (de_cB oc_len rfl Z.f_len bb_len (da_cons (de_ix (dv 0) de_int) da_nil)) rfl)))) (dss_cons (ds_set 2 nd__law_next (de_ix (de_ix (dv 0) de_int) (de_ix (dv 0) de_int)))
    (dss_cons (ds_augS (dv 0) de_int de_int ip_add)
    (dss_one (ds_if (dt_cmp (od_ord op_ge) (dv 2) (de_op od_pow de_int de_int) rfl) (dss_one (ds_asg (dv 2) (dg_sub (dv 0) de_int))) (dss_one (ds_asg (de_op od_mod (de_cT oc_int rfl Z.f_int bb_int (da_cons (de_op od_addT (de_op od_addT (de_op od_mul (de_ix (dv 0) de_int) de_int) (de_op od_mod (de_cT oc_int rfl Z.f_int bb_int (da_cons (dv 2) da_nil)) de_int)) de_int) da_nil)) de_int) (dg_sub (dv 0) de_int))))))) dss_nil)
    (dss_cons (ds_if (dt_cmp (od_ord op_gt) (de_ix (dv 0) de_int) de_int rfl) (dss_cons (ds_set 3 nd__law_next (de_op od_mod (de_cT oc_int rfl Z.f_int bb_int (da_cons (de_ix (dv 0) de_int) da_nil)) (dv 1)))
    (dss_cons (ds_asg (de_op od_div (de_ix (dv 0) de_int) (dv 1)) (dg_sub (dv 0) de_int))
    (dss_one (ds_ret (dv 3))))) dss_nil)
    (dss_cons (ds_asg (de_op od_mod (de_cT oc_int rfl Z.f_int bb_int (da_cons (de_op od_addT (de_op od_mul (de_ix (dv 0) de_int) de_int) de_int) da_nil)) de_int) (dg_sub (dv 0) de_int))
    (dss_one (ds_ret (de_op od_mod (de_cT oc_int rfl Z.f_int bb_int (da_cons (de_op od_div (de_ix (dv 0) de_int) de_int) da_nil)) (dv 1)))))))) ?_, Z.g__law_next, F.kp, hb⟩
  rintro ds S Q E hl ⟨a, ns, p, big, seed, lim, rfl, ho, hst, h0, h1, hq⟩
  rw [show startD N__law_next [.ref a, .int (lim : Nat)] = [some (.ref a), some (.int (lim : Nat)), none, none] from rfl]
  clear hl
  refine seq_cut (fun ρ S' => ∃ p' big' seed' x, ρ = [some (.ref a), some (.int (lim : Nat)), x, none] ∧ S' = sup S a (stO ns p' big' seed') ∧ StOk big' seed') (fun Rest hR => ?_) ?_
  · have ho' := ho
    unfold stO stL at ho
    walk_at "nd"
    have out : Rest [some (.ref a), some (.int (lim : Nat)), none, none] S := hR _ _ ⟨p, big, seed, none, rfl, (sup_id ho').symm, hst⟩
    by_cases hb0 : big = 0
    · rw [if_pos hb0]
      by_cases hp : p < ns.length
      · rw [if_pos hp]
        rw [List.getElem?_eq_getElem hp]
        refine ⟨_, rfl, by omega, _, rfl, (p : Int), rfl, _, rfl, show 1 < 4 by omega, ⟨by decide, by decide, by decide⟩, ?_⟩
        show if (10 ^ Int.toNat 18 : Int) ≤ ns[p] then _ else _
        by_cases hc : (10 ^ Int.toNat 18 : Int) ≤ ns[p]
        · rw [if_pos hc]
          refine ⟨_, rfl, 2, rfl, ?_⟩
          rw [sup_sup]
          have h10 : (0 : Int) ≤ 10 ^ Int.toNat 18 := by decide
          exact hR _ _ ⟨p + 1, ns[p], seed, _, rfl, rfl, ⟨by omega, hst.s0, hst.s1⟩⟩
        · rw [if_neg hc]
          refine ⟨_, rfl, ⟨.inr (by decide), ?_⟩⟩
          show (2147483647 : Int) ≠ 0 ∧ (2147483647 : Int) ≠ 0 ∧ _
          refine ⟨by decide, by decide, _, rfl, 3, rfl, ?_⟩
          rw [sup_sup]
          exact hR _ _ ⟨p + 1, big, _, _, rfl, rfl, ⟨hst.b, Int.fmod_nonneg_of_pos _ (by decide), Int.fmod_lt_of_pos _ (by decide)⟩⟩
      · rw [if_neg hp]
        exact out
    · rw [if_neg hb0]
      exact out
  · rintro ρ S' ⟨p', big', seed', x, rfl, rfl, hst'⟩
    clear ho hst
    have hlim : (lim : Int) ≠ 0 := by omega
    have hlp : (0 : Int) < (lim : Int) := by omega
    refine seq_cut (fun ρ S' => ρ = [some (.ref a), some (.int (lim : Nat)), x, none] ∧ S' = sup S a (stO ns p' big' seed')) (fun Rest hR => ?_) ?_
    · have ho : sup S a (stO ns p' big' seed') a = some (stO ns p' big' seed') := sup_same
      have out : Rest [some (.ref a), some (.int (lim : Nat)), x, none] (sup S a (stO ns p' big' seed')) := hR _ _ ⟨rfl, rfl⟩
      clear hR
      unfold stO stL at ho
      walk_at "nd"
      refine ⟨_, rfl, ?_⟩
      show if (0 : Int) < big' then _ else _
      by_cases hb : (0 : Int) < big'
      · rw [if_pos hb]
        refine ⟨_, rfl, hlim, _, rfl, ⟨hlim, by omega⟩, _, rfl, 2, rfl, ?_⟩
        rw [sup_sup]
        obtain ⟨r, hr⟩ := Int.eq_ofNat_of_zero_le (Int.fmod_nonneg_of_pos big' hlp)
        have h2 := Int.fmod_lt_of_pos big' hlp
        rw [hr]
        exact fini (hq r p' _ seed' (by omega) ⟨Int.fdiv_nonneg (by omega) (by omega), hst'.s0, hst'.s1⟩)
      · rw [if_neg hb]
        first
          | exact True.intro
          | exact out
    · rintro ρ S' ⟨rfl, rfl⟩
      have ho : sup S a (stO ns p' big' seed') a = some (stO ns p' big' seed') := sup_same
      unfold stO stL at ho
      walk_at "nd"
      refine ⟨_, rfl, ⟨.inr (by decide), by decide, _, rfl, 3, rfl, _, rfl, ⟨⟨by decide, by decide⟩, hlim, ?_⟩⟩⟩
      rw [sup_sup]
      obtain ⟨r, hr⟩ := Int.eq_ofNat_of_zero_le (Int.fmod_nonneg_of_pos ((((seed' * 69621 + 12345).fmod 2147483647) : Int).fdiv 7) hlp)
      have h2 := Int.fmod_lt_of_pos ((((seed' * 69621 + 12345).fmod 2147483647) : Int).fdiv 7) hlp
      rw [hr]
      exact fini (hq r p' big' _ (by omega) ⟨hst'.b, Int.fmod_nonneg_of_pos _ (by decide), Int.fmod_lt_of_pos _ (by decide)⟩)
end K06
namespace K06
open PySem PySem.Spec L2 DL
local macro_rules | `(tactic| walk_at "nd") => `(tactic| simp only [icO, isN0, gCatB, gEq_bb, tdLcB, tdDNew, tdNNew, tdNGet, tdNPut, tdFGet, tdiF, tdDctF, tdDc, tdDcN, tdTru, tdDAugG, tdDictZ, tdCallV, tdLc2, ln_4, ln_5, ln_6, fmod_2, fdiv_2, gAddT, tdIdx, gdUnl, tdiD, gSortI, gMin2, gMax2, gTuple, gDictP, tdLcT, lcT, setD, unsetD, tdKGet, tdKGet2, tdGet2, tdPop, tdSeq, tdAsg, tdV, gdName, tdAnd, tdOr, tdNot, tdB, tdOp, tdCB, tdCons, tdNil, tdC, tdAug, tdSl, tdP, tdRet, tdTup, tdIf, tdIfS, gOrd, gI0, gI, gLen, gIx, gAdd, gInt, vw, ixP, gSl, tdDrop, tdRetN, tdNext, gIn_sc, gIn_ts, gIn_ls, gIn_t2, gIn_l2, gIn_l4, tdApp, sl_0, sl_1, sl_2, sl_3, sl_4, sl_5, ff, tt', true_and, id,
  eqS, tdFor, tdiT, tdiL, tdiR, tdXp, gList, gEq_ns, tdJoin, gJoin, vwS, gMul, gMod, gDiv, gPow, gI, tdAugS, gdSub, gSet, ixN_2, ixN_3, atI_3, atI_4, gEq_ss, gEq_ii, tdDict, tdPairs, tdNeg, Option.isNone_none, Option.isNone_some, gIsi, tdGet, tdDPut, tdDAug, tdIsN, tdNotN, DO.dic.injEq, Option.isNone_none, Option.isNone_some, gIn_l2, gIn_t2, Option.getD_some, tdLc, gMax, tdNoP, forR, tdRaise, tdCall, tdNotV, tdAndV, tdOrV, tdBox, tdZ, gdTup, gdCons, gdNil, tdBreak, tdCont, tdYes, icast, icast1, icast2, icast3, tdLst, gIn_l4, icastL, icastE, icastZ, ln_0, ln_1, ln_2, ln_3,
  List.getElem?_cons_zero, List.getElem?_cons_succ, List.set_cons_zero, List.set_cons_succ, Option.some.injEq, exists_eq_left', exists_eq_left, D.bl.injEq, decide_eq_true_eq,
  tdFldC, tdMeth, tdMake, tdPutF, tdAugF, D.ref.injEq, DO.ins.injEq, and_assoc, DL.gSub, D.int.injEq, D.str.injEq, sup_same, eq_self, not_true_eq_false, not_false_eq_true, Bool.false_eq_true, Bool.not_eq_true, decide_not, atIn, atI_0, atI_1, atI_2, List.getElem?_map, Option.map_some, Option.map_none, decide_true, decide_false, Bool.not_true, Bool.not_false, if_true, if_false, lm_0, lm_1, lm_2, List.length_map, exists_and_left, *])
variable {P : Program} {w : World} {K : PySem.W.Frag} {mg : Str → Option Value} {base : Heap}
/-- another literal of the same node -/
def turn (n : Nat) : Nat := if n % 2 = 0 then n + 1 else n - 1
theorem turn_lt {n m : Nat} (h : n < 2 * m) : turn n < 2 * m := by unfold turn; split <;> omega
def m_turned : M := fun ds S Q E => ∃ n : Nat, ds = [.int (n : Nat)] ∧ n ≤ 1000 ∧ Q (.int (turn n : Nat)) S
theorem d__law_turned (Z : Zf P w K mg base) : Ca P w K mg base 1 "_law_turned" ["literal"] m_turned := by
  obtain ⟨fd, F, hb⟩ := Z.F__law_turned
  refine ⟨_, fd, df_of (k := 0) F sc__law_turned (fun cdv A outer s H E F0 E' B => (dss_one (ds_ret (de_op od_sub (de_op od_addT (dv 0) de_int) (de_op od_mul de_int (de_op od_mod (dv 0) de_int)))))) ?_, Z.g__law_turned, F.kp, hb⟩
  rintro ds S Q E hl ⟨n, rfl, hn, hq⟩
  rw [show startD N__law_turned [.int (n : Nat)] = [some (.int (n : Nat))] from rfl]
  clear hl
  walk_at "nd"
  refine ⟨by decide, .inl (by decide), ?_⟩
  have e : ((n + 1 : Nat) : Int) - 2 * ((n % 2 : Nat) : Int) = (turn n : Nat) := by
    unfold turn
    split <;> omega
  rw [e]
  exact fini hq
/-- gates whose literals lie below them -/
def Gs (start : Nat) (ps : List (Nat × Nat)) : Prop := ∀ (k : Nat) (p : Nat × Nat), ps[k]? = some p → p.1 < 2 * (start + k) ∧ p.2 < 2 * (start + k)
theorem Gs.snoc {start : Nat} {ps : List (Nat × Nat)} {p : Nat × Nat} (h : Gs start ps) (h1 : p.1 < 2 * (start + ps.length)) (h2 : p.2 < 2 * (start + ps.length)) : Gs start (ps ++ [p]) := by
  intro k q hq
  by_cases hk : k < ps.length
  · rw [List.getElem?_append_left hk] at hq
    exact h k q hq
  · rw [List.getElem?_append_right (by omega)] at hq
    have : k - ps.length = 0 := by
      have := (List.getElem?_eq_some_iff.mp hq).1
      simpa using this
    rw [this] at hq
    cases hq
    have e : k = ps.length := by omega
    rw [e]
    exact ⟨h1, h2⟩
abbrev gaO (ps : List (Nat × Nat)) : DO := .lst (ps.map prD)
def m_conj : M := fun ds S Q E => ∃ (g : Addr) (start one two : Nat) (ps : List (Nat × Nat)), ds = [.ref g, .int (start : Nat), .int (one : Nat), .int (two : Nat)] ∧ S g = some (gaO ps) ∧ Gs start ps ∧ start ≤ 100 ∧ ps.length ≤ 100 ∧ one < 2 * (start + ps.length) ∧ two < 2 * (start + ps.length) ∧
  ∀ (r : Nat) (ps' : List (Nat × Nat)), Gs start ps' → ps.length ≤ ps'.length → ps'.length ≤ ps.length + 1 → r < 2 * (start + ps'.length) → Q (.int (r : Nat)) (sup S g (gaO ps'))
theorem d__law_conj (Z : Zf P w K mg base) : Ca P w K mg base 1 "_law_conj" ["gates", "start", "one", "two"] m_conj := by
  obtain ⟨fd, F, hb⟩ := Z.F__law_conj
  refine ⟨_, fd, df_of (k := 0) F sc__law_conj (fun cdv A outer s H E F0 E' B => (dss_cons (ds_asg (de_cB oc_sortI rfl Z.f_sorted bb_sorted (da_cons (de_lst (da_cons (dv 2) (da_cons (dv 3) da_nil))) da_nil)) (dg_unl (n := 2) rfl (dgs_cons (dg_name 4 nd__law_conj) (dgs_cons (dg_name 5 nd__law_conj) dgs_nil))))
    (dss_cons (ds_if (PW.pt (dw_or (dt_cmp (od_eq B.units) (dv 4) de_int rfl) (dw_or1 (PW.pt (dw_and (dt_cmp (od_eq B.units) (de_op od_mod (dv 4) de_int) de_int rfl) (dw_and1 (dt_cmp (od_eq B.units) (dv 5) (de_op od_addT (dv 4) de_int) rfl))))))) (dss_one (ds_ret de_int)) dss_nil)
    (dss_cons (ds_if (PW.pt (dw_or (dt_cmp (od_eq B.units) (dv 4) de_int rfl) (dw_or1 (dt_cmp (od_eq B.units) (dv 4) (dv 5) rfl)))) (dss_one (ds_ret (dv 5))) dss_nil)
    (dss_cons (ds_if (dt_cmp (od_ninD (hu65 B.room)) (de_tup (da_cons (dv 5) (da_cons (dv 4) da_nil))) (dv 0) rfl) (dss_one (ds_expr (de_app (dv 0) (de_tup (da_cons (dv 5) (da_cons (dv 4) da_nil)))))) dss_nil)
    (dss_one (ds_ret (de_op od_mul de_int (de_op od_addT (dv 1) (de_index (hu65 B.room) (dv 0) (de_tup (da_cons (dv 5) (da_cons (dv 4) da_nil))))))))))))) ?_, Z.g__law_conj, F.kp, hb⟩
  rintro ds S Q E hl ⟨g, start, one, two, ps, rfl, ho, hg, h1, h2, h3, h4, hq⟩
  rw [show startD N__law_conj [.ref g, .int (start : Nat), .int (one : Nat), .int (two : Nat)] = [some (.ref g), some (.int (start : Nat)), some (.int (one : Nat)), some (.int (two : Nat)), none, none] from rfl]
  clear hl
  refine seq_cut (fun ρ S' => ρ = [some (.ref g), some (.int (start : Nat)), some (.int (one : Nat)), some (.int (two : Nat)), some (.int (min one two : Nat)), some (.int (max one two : Nat))] ∧ S' = S) (fun Rest hR => ?_) ?_
  · walk_at "nd"
    refine ⟨[(one : Int), (two : Int)], rfl, fun ns' p1 p2 => ?_⟩
    rw [sort2 p1 p2, show min (one : Int) (two : Int) = (min one two : Nat) by omega, show max (one : Int) (two : Int) = (max one two : Nat) by omega]
    exact ⟨_, rfl, rfl, _, _, rfl, _, _, rfl, rfl, hR _ _ ⟨rfl, rfl⟩⟩
  rintro ρ S' ⟨rfl, rfl⟩
  have hmx : max one two < 2 * (start + ps.length) := by omega
  have hmn : min one two < 2 * (start + ps.length) := by omega
  have hle : min one two ≤ max one two := by omega
  generalize min one two = lo at hmn hle ⊢
  generalize max one two = hi at hmx hle ⊢
  have hsup : sup S' g (gaO ps) = S' := sup_id ho
  refine seq_cut (fun ρ S1 => ρ = [some (.ref g), some (.int (start : Nat)), some (.int (one : Nat)), some (.int (two : Nat)), some (.int (lo : Nat)), some (.int (hi : Nat))] ∧ S1 = S') (fun Rest hR => ?_) ?_
  · walk_at "nd"
    have z := hq 0 ps hg (Nat.le_refl _) (by omega) (by omega)
    rw [hsup] at z
    split
    · exact fini z
    · refine ⟨by decide, ?_⟩
      split
      · split
        · exact fini z
        · trivial
      · trivial
  rintro ρ S1 ⟨rfl, rfl⟩
  refine seq_cut (fun ρ S2 => ρ = [some (.ref g), some (.int (start : Nat)), some (.int (one : Nat)), some (.int (two : Nat)), some (.int (lo : Nat)), some (.int (hi : Nat))] ∧ S2 = S1) (fun Rest hR => ?_) ?_
  · walk_at "nd"
    have z := hq hi ps hg (Nat.le_refl _) (by omega) (by omega)
    rw [hsup] at z
    split
    · exact fini z
    · split
      · exact fini z
      · trivial
  rintro ρ S2 ⟨rfl, rfl⟩
  refine seq_cut (fun ρ S3 => ∃ ps' : List (Nat × Nat), Gs start ps' ∧ ps.length ≤ ps'.length ∧ ps'.length ≤ ps.length + 1 ∧ (hi, lo) ∈ ps' ∧ ρ = [some (.ref g), some (.int (start : Nat)), some (.int (one : Nat)), some (.int (two : Nat)), some (.int (lo : Nat)), some (.int (hi : Nat))] ∧ S3 = sup S2 g (gaO ps')) (fun Rest hR => ?_) ?_
  · walk_at "nd"
    refine gInD_pr (ps := ps) (p := (hi, lo)) ho ⟨_, rfl, ?_⟩
    by_cases hm : (hi, lo) ∈ ps
    · rw [if_neg (by rw [decide_eq_true hm]; decide)]
      exact hR _ _ ⟨ps, hg, Nat.le_refl _, by omega, hm, rfl, hsup.symm⟩
    · rw [if_pos (by rw [decide_eq_false hm]; decide)]
      refine ⟨⟨_, ho⟩, _, ho, ?_, hR _ _ ⟨ps ++ [(hi, lo)], hg.snoc hmx hmn, by rw [List.length_append]; omega, by rw [List.length_append]; exact Nat.le_refl _, List.mem_append_right _ List.mem_cons_self, rfl, ?_⟩⟩
      · rw [List.length_map]
        exact Nat.lt_of_lt_of_le (show ps.length < 101 by omega) (sz5 (by omega))
      · show _ = sup S2 g (.lst ((ps ++ [(hi, lo)]).map prD))
        rw [List.map_append]
        rfl
  rintro ρ S3 ⟨ps', g1, g2, g3, g4, rfl, rfl⟩
  walk_at "nd"
  obtain ⟨ds, j, z, e1, e2, e3, e4, e5, e6, e7, e8, hj⟩ := idx_pr (S := sup S2 g (gaO ps')) (a := g) sup_same g4 (Q := fun j => ps'[j]? = some (hi, lo)) fun j h => h
  rw [vw_ref sup_same] at e1
  injection e1 with e1
  subst e1
  have hjl := (List.getElem?_eq_some_iff.mp hj).1
  refine ⟨⟨_, rfl⟩, _, rfl, e2, e3, e4, e5, j, z, e6, e7, e8, .inl (by decide), ?_⟩
  have e9 : (2 : Int) * ((start + j : Nat) : Int) = (2 * (start + j) : Nat) := by omega
  rw [e9]
  exact fini (hq _ ps' g1 g2 g3 (by omega))
end K06
namespace K06
open PySem PySem.Spec L2 DL
local macro_rules | `(tactic| walk_at "nd") => `(tactic| simp only [icO, isN0, gCatB, gEq_bb, tdLcB, tdDNew, tdNNew, tdNGet, tdNPut, tdFGet, tdiF, tdDctF, tdDc, tdDcN, tdTru, tdDAugG, tdDictZ, tdCallV, tdLc2, ln_4, ln_5, ln_6, fmod_2, fdiv_2, gAddT, tdIdx, gdUnl, tdiD, gSortI, gMin2, gMax2, gTuple, gDictP, tdLcT, lcT, setD, unsetD, tdKGet, tdKGet2, tdGet2, tdPop, tdSeq, tdAsg, tdV, gdName, tdAnd, tdOr, tdNot, tdB, tdOp, tdCB, tdCons, tdNil, tdC, tdAug, tdSl, tdP, tdRet, tdTup, tdIf, tdIfS, gOrd, gI0, gI, gLen, gIx, gAdd, gInt, vw, ixP, gSl, tdDrop, tdRetN, tdNext, gIn_sc, gIn_ts, gIn_ls, gIn_t2, gIn_l2, gIn_l4, tdApp, sl_0, sl_1, sl_2, sl_3, sl_4, sl_5, ff, tt', true_and, id,
  eqS, tdFor, tdiT, tdiL, tdiR, tdXp, gList, gEq_ns, tdJoin, gJoin, vwS, gMul, gMod, gDiv, gPow, gI, tdAugS, gdSub, gSet, ixN_2, ixN_3, atI_3, atI_4, gEq_ss, gEq_ii, tdDict, tdPairs, tdNeg, Option.isNone_none, Option.isNone_some, gIsi, tdGet, tdDPut, tdDAug, tdIsN, tdNotN, DO.dic.injEq, Option.isNone_none, Option.isNone_some, gIn_l2, gIn_t2, Option.getD_some, tdLc, gMax, tdNoP, forR, tdRaise, tdCall, tdNotV, tdAndV, tdOrV, tdBox, tdZ, gdTup, gdCons, gdNil, tdBreak, tdCont, tdYes, icast, icast1, icast2, icast3, tdLst, gIn_l4, icastL, icastE, icastZ, ln_0, ln_1, ln_2, ln_3,
  List.getElem?_cons_zero, List.getElem?_cons_succ, List.set_cons_zero, List.set_cons_succ, Option.some.injEq, exists_eq_left', exists_eq_left, D.bl.injEq, decide_eq_true_eq,
  tdFldC, tdMeth, tdMake, tdPutF, tdAugF, D.ref.injEq, DO.ins.injEq, and_assoc, DL.gSub, D.int.injEq, D.str.injEq, sup_same, eq_self, not_true_eq_false, not_false_eq_true, Bool.false_eq_true, Bool.not_eq_true, decide_not, atIn, atI_0, atI_1, atI_2, List.getElem?_map, Option.map_some, Option.map_none, decide_true, decide_false, Bool.not_true, Bool.not_false, if_true, if_false, lm_0, lm_1, lm_2, List.length_map, exists_and_left, *])
variable {P : Program} {w : World} {K : PySem.W.Frag} {mg : Str → Option Value} {base : Heap}
/-- a store whose gates are at g -/
structure GSt (g : Addr) (start : Nat) (ps : List (Nat × Nat)) (S : Store) : Prop where
  o : S g = some (gaO ps)
  g : Gs start ps
  l1 : start ≤ 100
theorem conj_go {g : Addr} {start one two : Nat} {ps : List (Nat × Nat)} {S : Store} {Q : D → Store → Prop} {E : XD} (h : GSt g start ps S) (hl : ps.length ≤ 100) (h1 : one < 2 * (start + ps.length)) (h2 : two < 2 * (start + ps.length))
    (q : ∀ (r : Nat) (ps' : List (Nat × Nat)), GSt g start ps' (sup S g (gaO ps')) → ps.length ≤ ps'.length → ps'.length ≤ ps.length + 1 → r < 2 * (start + ps'.length) → Q (.int (r : Nat)) (sup S g (gaO ps'))) :
    m_conj [.ref g, .int (start : Nat), .int (one : Nat), .int (two : Nat)] S Q E :=
  ⟨g, start, one, two, ps, rfl, h.o, h.g, h.l1, hl, h1, h2, fun r ps' g1 g2 g3 g4 => q r ps' ⟨sup_same, g1, h.l1⟩ g2 g3 g4⟩
def m_step : M := fun ds S Q E => ∃ (g : Addr) (start one two : Nat) (word : Tx) (other : Bool) (ps : List (Nat × Nat)), ds = [.ref g, .int (start : Nat), .str word, .int (one : Nat), .int (two : Nat), .bl other] ∧ GSt g start ps S ∧ ps.length ≤ 90 ∧
  one < 2 * (start + ps.length) ∧ two < 2 * (start + ps.length) ∧
  ∀ (r : Nat) (ps' : List (Nat × Nat)), Gs start ps' → ps.length ≤ ps'.length → ps'.length ≤ ps.length + 3 → r < 2 * (start + ps'.length) → Q (.int (r : Nat)) (sup S g (gaO ps'))
theorem d__law_step (Z : Zf P w K mg base) : Ca P w K mg base 2 "_law_step" ["gates", "start", "word", "one", "two", "other"] m_step := by
  obtain ⟨fd, F, hb⟩ := Z.F__law_step
  refine ⟨_, fd, df_of (k := 1) F sc__law_step (fun cdv A outer s H E F0 E' B => (dss_cons (ds_if (dt_cmp (od_eq B.units) (dv 2) de_str rfl) (dss_one (ds_ret (de_ca (d__law_conj Z) (B.mono (by omega)) rfl (da_cons (dv 0) (da_cons (dv 1) (da_cons (dv 3) (da_cons (dv 4) da_nil))))))) dss_nil)
    (dss_cons (ds_if (dt_cmp (od_eq B.units) (dv 2) de_str rfl) (dss_one (ds_ret (de_ca (d__law_turned Z) (B.mono (by omega)) rfl (da_cons (de_ca (d__law_conj Z) (B.mono (by omega)) rfl (da_cons (dv 0) (da_cons (dv 1) (da_cons (de_ca (d__law_turned Z) (B.mono (by omega)) rfl (da_cons (dv 3) da_nil)) (da_cons (de_ca (d__law_turned Z) (B.mono (by omega)) rfl (da_cons (dv 4) da_nil)) da_nil))))) da_nil)))) dss_nil)
    (dss_cons (ds_if (dt_val (dv 5)) (dss_cons (ds_set 6 nd__law_step (de_ca (d__law_conj Z) (B.mono (by omega)) rfl (da_cons (dv 0) (da_cons (dv 1) (da_cons (dv 3) (da_cons (dv 4) da_nil))))))
    (dss_one (ds_ret (de_ca (d__law_conj Z) (B.mono (by omega)) rfl (da_cons (dv 0) (da_cons (dv 1) (da_cons (de_ca (d__law_turned Z) (B.mono (by omega)) rfl (da_cons (de_ca (d__law_conj Z) (B.mono (by omega)) rfl (da_cons (dv 0) (da_cons (dv 1) (da_cons (de_ca (d__law_turned Z) (B.mono (by omega)) rfl (da_cons (dv 3) da_nil)) (da_cons (de_ca (d__law_turned Z) (B.mono (by omega)) rfl (da_cons (dv 4) da_nil)) da_nil))))) da_nil)) (da_cons (de_ca (d__law_turned Z) (B.mono (by omega)) rfl (da_cons (dv 6) da_nil)) da_nil)))))))) dss_nil)
    (dss_cons (ds_set 7 nd__law_step (de_ca (d__law_conj Z) (B.mono (by omega)) rfl (da_cons (dv 0) (da_cons (dv 1) (da_cons (dv 3) (da_cons (de_ca (d__law_turned Z) (B.mono (by omega)) rfl (da_cons (dv 4) da_nil)) da_nil))))))
    (dss_cons (ds_set 8 nd__law_step (de_ca (d__law_conj Z) (B.mono (by omega)) rfl (da_cons (dv 0) (da_cons (dv 1) (da_cons (de_ca (d__law_turned Z) (B.mono (by omega)) rfl (da_cons (dv 3) da_nil)) (da_cons (dv 4) da_nil))))))
    (dss_one (ds_ret (de_ca (d__law_turned Z) (B.mono (by omega)) rfl (da_cons (de_ca (d__law_conj Z) (B.mono (by omega)) rfl (da_cons (dv 0) (da_cons (dv 1) (da_cons (de_ca (d__law_turned Z) (B.mono (by omega)) rfl (da_cons (dv 7) da_nil)) (da_cons (de_ca (d__law_turned Z) (B.mono (by omega)) rfl (da_cons (dv 8) da_nil)) da_nil))))) da_nil)))))))))) ?_, Z.g__law_step, F.kp, hb⟩
  rintro ds S Q E hl ⟨g, start, one, two, word, other, ps, rfl, hg, hl0, h1, h2, hq⟩
  rw [show startD N__law_step [.ref g, .int (start : Nat), .str word, .int (one : Nat), .int (two : Nat), .bl other] = [some (.ref g), some (.int (start : Nat)), some (.str word), some (.int (one : Nat)), some (.int (two : Nat)), some (.bl other), none, none, none] from rfl]
  clear hl
  have hs := hg.l1
  have t1 := turn_lt h1
  have t2 := turn_lt h2
  refine seq_cut (fun ρ S1 => ρ = [some (.ref g), some (.int (start : Nat)), some (.str word), some (.int (one : Nat)), some (.int (two : Nat)), some (.bl other), none, none, none] ∧ S1 = S) (fun Rest hR => ?_) ?_
  · walk_at "nd"
    split
    · exact conj_go hg (by omega) h1 h2 fun r ps' g1 g2 g3 g4 => fini (hq r ps' g1.g g2 (by omega) g4)
    · trivial
  rintro ρ S1 ⟨rfl, rfl⟩
  refine seq_cut (fun ρ S2 => ρ = [some (.ref g), some (.int (start : Nat)), some (.str word), some (.int (one : Nat)), some (.int (two : Nat)), some (.bl other), none, none, none] ∧ S2 = S1) (fun Rest hR => ?_) ?_
  · walk_at "nd"
    split
    · exact ⟨one, rfl, by omega, two, rfl, by omega, conj_go hg (by omega) t1 t2 fun r ps' g1 g2 g3 g4 => ⟨r, rfl, by omega, fini (hq _ ps' g1.g g2 (by omega) (turn_lt g4))⟩⟩
    · trivial
  rintro ρ S2 ⟨rfl, rfl⟩
  refine seq_cut (fun ρ S3 => ρ = [some (.ref g), some (.int (start : Nat)), some (.str word), some (.int (one : Nat)), some (.int (two : Nat)), some (.bl other), none, none, none] ∧ S3 = S2) (fun Rest hR => ?_) ?_
  · walk_at "nd"
    cases other with
    | false => walk_at "nd"
    | true =>
      walk_at "nd"
      refine conj_go hg (by omega) h1 h2 fun r ps1 g1 g2 g3 g4 => ?_
      refine ⟨one, rfl, by omega, two, rfl, by omega, conj_go g1 (by omega) (by omega) (by omega) fun r2 ps2 k1 k2 k3 k4 => ?_⟩
      have t4 := turn_lt g4
      have t5 := turn_lt k4
      refine ⟨r2, rfl, by omega, r, rfl, by omega, conj_go k1 (by omega) t5 (by omega) fun r3 ps3 j1 j2 j3 j4 => ?_⟩
      rw [sup_sup, sup_sup]
      exact fini (hq r3 ps3 j1.g (by omega) (by omega) j4)
  rintro ρ S3 ⟨rfl, rfl⟩
  walk_at "nd"
  refine ⟨two, rfl, by omega, conj_go hg (by omega) h1 t2 fun r ps1 g1 g2 g3 g4 => ?_⟩
  refine ⟨one, rfl, by omega, conj_go g1 (by omega) (by omega) (by omega) fun r2 ps2 k1 k2 k3 k4 => ?_⟩
  have t4 := turn_lt g4
  have t5 := turn_lt k4
  refine ⟨r, rfl, by omega, r2, rfl, by omega, conj_go k1 (by omega) (by omega) t5 fun r3 ps3 j1 j2 j3 j4 => ?_⟩
  refine ⟨r3, rfl, by omega, ?_⟩
  rw [sup_sup, sup_sup]
  exact fini (hq _ ps3 j1.g (by omega) (by omega) (turn_lt j4))
end K06
namespace K06
open PySem PySem.Spec L2 DL
local macro_rules | `(tactic| walk_at "nd") => `(tactic| simp only [icO, isN0, gCatB, gEq_bb, tdLcB, tdDNew, tdNNew, tdNGet, tdNPut, tdFGet, tdiF, tdDctF, tdDc, tdDcN, tdTru, tdDAugG, tdDictZ, tdCallV, tdLc2, ln_4, ln_5, ln_6, fmod_2, fdiv_2, gAddT, tdIdx, gdUnl, tdiD, gSortI, gMin2, gMax2, gTuple, gDictP, tdLcT, lcT, setD, unsetD, tdKGet, tdKGet2, tdGet2, tdPop, tdSeq, tdAsg, tdV, gdName, tdAnd, tdOr, tdNot, tdB, tdOp, tdCB, tdCons, tdNil, tdC, tdAug, tdSl, tdP, tdRet, tdTup, tdIf, tdIfS, gOrd, gI0, gI, gLen, gIx, gAdd, gInt, vw, ixP, gSl, tdDrop, tdRetN, tdNext, gIn_sc, gIn_ts, gIn_ls, gIn_t2, gIn_l2, gIn_l4, tdApp, sl_0, sl_1, sl_2, sl_3, sl_4, sl_5, ff, tt', true_and, id,
  eqS, tdFor, tdiT, tdiL, tdiR, tdXp, gList, gEq_ns, tdJoin, gJoin, vwS, gMul, gMod, gDiv, gPow, gI, tdAugS, gdSub, gSet, ixN_2, ixN_3, atI_3, atI_4, gEq_ss, gEq_ii, tdDict, tdPairs, tdNeg, Option.isNone_none, Option.isNone_some, gIsi, tdGet, tdDPut, tdDAug, tdIsN, tdNotN, DO.dic.injEq, Option.isNone_none, Option.isNone_some, gIn_l2, gIn_t2, Option.getD_some, tdLc, gMax, tdNoP, forR, tdRaise, tdCall, tdNotV, tdAndV, tdOrV, tdBox, tdZ, gdTup, gdCons, gdNil, tdBreak, tdCont, tdYes, icast, icast1, icast2, icast3, tdLst, gIn_l4, icastL, icastE, icastZ, ln_0, ln_1, ln_2, ln_3,
  List.getElem?_cons_zero, List.getElem?_cons_succ, List.set_cons_zero, List.set_cons_succ, Option.some.injEq, exists_eq_left', exists_eq_left, D.bl.injEq, decide_eq_true_eq,
  tdFldC, tdMeth, tdMake, tdPutF, tdAugF, D.ref.injEq, DO.ins.injEq, and_assoc, DL.gSub, D.int.injEq, D.str.injEq, sup_same, eq_self, not_true_eq_false, not_false_eq_true, Bool.false_eq_true, Bool.not_eq_true, decide_not, atIn, atI_0, atI_1, atI_2, List.getElem?_map, Option.map_some, Option.map_none, decide_true, decide_false, Bool.not_true, Bool.not_false, if_true, if_false, lm_0, lm_1, lm_2, List.length_map, exists_and_left, *])
variable {P : Program} {w : World} {K : PySem.W.Frag} {mg : Str → Option Value} {base : Heap}
/-- a literal under other numbers -/
def num (kv : List (DK × D)) (l : Nat) : Nat := match valD kv (.inl ((l / 2 : Nat) : Int)) with
  | some (.int v) => 2 * v.toNat + l % 2
  | _ => 0
theorem num_at {kv : List (DK × D)} {l v : Nat} (h : valD kv (.inl ((l / 2 : Nat) : Int)) = some (nat v)) : num kv l = 2 * v + l % 2 := by
  unfold num
  rw [h]
  show 2 * ((v : Nat) : Int).toNat + l % 2 = _
  rw [Int.toNat_natCast]
theorem num_go {S : Store} {a b g : Addr} {kv : List (DK × D)} {l : Nat} {Q : D → Store → Prop} {start : Nat} {e u : D} {x : Option D} (h : S a = some (.dic kv)) (hv : ∃ v, valD kv (.inl ((l / 2 : Nat) : Int)) = some (nat v)) (q : Q (nat (num kv l)) S) :
    tdOp gAddT (tdOp gMul (tdC (.int 2)) (tdGet (tdV 6) (tdOp gDiv (tdV 4) (tdC (.int 2))))) (tdOp gMod (tdV 4) (tdC (.int 2)))
      ([some (.int (start : Nat)), some (.ref g), some e, some u, none, x, some (.ref a), none, some (.ref b)].set 4 (some (nat l))) S Q := by
  obtain ⟨v, hv⟩ := hv
  rw [num_at hv] at q
  walk_at "nd"
  refine ⟨⟨by decide, by decide⟩, .inl ((l / 2 : Nat) : Int), rfl, nat v, hv, ?_⟩
  show CMul 2 (v : Int) ∧ (2 : Int) ≠ 0 ∧ Q (.int (2 * (v : Int) + ((l % 2 : Nat) : Int))) S
  have e1 : 2 * (v : Int) + ((l % 2 : Nat) : Int) = (2 * v + l % 2 : Nat) := by omega
  rw [e1]
  exact ⟨.inl (by decide), by decide, q⟩
def m_trimmed : M := fun ds S Q E => ∃ (g : Addr) (start : Nat) (ps : List (Nat × Nat)) (ends : List Nat), ds = [.int (start : Nat), .ref g, .lst (ends.map nat)] ∧ GSt g start ps S ∧ ps.length ≤ 50 ∧ ends.length ≤ 50 ∧ (∀ l ∈ ends, l < 2 * (start + ps.length)) ∧
  ∀ (kept : List (Nat × Nat)) (told : List Nat) S', Sub S S' → Gs start kept → kept.length ≤ ps.length → told.length = ends.length → (∀ l ∈ told, l < 2 * (start + kept.length)) → Q (.tup [.tup (kept.map prD), .lst (told.map nat)]) S'
theorem sup_swap {S : Store} {a b : Addr} {x y z : DO} (h : b ≠ a) : sup (sup (sup S a x) b y) a z = sup (sup S a z) b y := by
  funext d
  unfold sup
  by_cases h1 : d = a
  · rw [if_pos h1, if_neg (by rw [h1]; exact h.symm), if_pos h1]
  · rw [if_neg h1, if_neg h1, if_neg h1]
theorem d__law_trimmed (Z : Zf P w K mg base) : Ca P w K mg base 1 "_law_trimmed" ["start", "gates", "ends"] m_trimmed := by
  obtain ⟨fd, F, hb⟩ := Z.F__law_trimmed
  refine ⟨_, fd, df_of (k := 0) F sc__law_trimmed (fun cdv A outer s H E F0 E' B => (dss_cons (ds_setLc 3 rfl nd__law_trimmed rfl rfl (sw_true rfl rfl rfl (by decide +kernel)) (di_lst (dv 2)) (blkOk_by (own := [("literal", 4)]) (N := N__law_trimmed) (sc := defScope st__law_trimmed) (by decide +kernel)) (fun _ _ _ _ _ => pg_name (i := 4) nd__law_trimmed rfl (Or.inl rfl)) (fun _ _ _ _ _ => dts_nil) (fun _ _ _ _ _ => (de_op od_div (dv 4) de_int)))
    (dss_cons (ds_for (passes_of rfl) rfl (di_down rfl Z.f_range (da_cons (de_op od_sub (de_cB oc_len rfl Z.f_len bb_len (da_cons (dv 1) da_nil)) de_int) (da_cons (de_neg de_int) (da_cons (de_neg de_int) da_nil)))) (dg_name 5 nd__law_trimmed) (dss_one (ds_if (dt_cmp od_in (de_op od_addT (dv 0) (dv 5)) (dv 3) rfl) (dss_one (ds_set 3 nd__law_trimmed (de_op od_addT (dv 3) (de_lc rfl nd__law_trimmed (di_tup (de_ix (dv 1) (dv 5))) (blkOk_by (own := [("literal", 4)]) (N := N__law_trimmed) (sc := defScope st__law_trimmed) (by decide +kernel)) (fun _ _ _ _ _ => pg_name (i := 4) nd__law_trimmed rfl (Or.inl rfl)) (fun _ _ _ _ _ => dts_nil) (fun _ _ _ _ _ => (de_op od_div (dv 4) de_int)))))) dss_nil)))
    (dss_cons (ds_set 6 nd__law_trimmed (de_cT (oc_dictP rfl) rfl Z.f_dict bb_dict (da_cons (de_lc rfl nd__law_trimmed (di_rng rfl Z.f_range (da_cons (dv 0) da_nil)) (blkOk_by (own := [("node", 7)]) (N := N__law_trimmed) (sc := defScope st__law_trimmed) (by decide +kernel)) (fun _ _ _ _ _ => pg_name (i := 7) nd__law_trimmed rfl (Or.inl rfl)) (fun _ _ _ _ _ => dts_nil) (fun _ _ _ _ _ => (de_tup (da_cons (dv 7) (da_cons (dv 7) da_nil))))) da_nil)))
    (dss_cons (ds_set 8 nd__law_trimmed (de_box da_nil))
    (dss_cons (ds_for (passes_of rfl) rfl (di_rng rfl Z.f_range (da_cons (de_cB oc_len rfl Z.f_len bb_len (da_cons (dv 1) da_nil)) da_nil)) (dg_name 5 nd__law_trimmed) (dss_one (ds_if (dt_cmp od_in (de_op od_addT (dv 0) (dv 5)) (dv 3) rfl) (dss_cons (ds_dput B.units1 (dv 6) (de_op od_addT (dv 0) (dv 5)) (de_op od_addT (dv 0) (de_cB oc_len rfl Z.f_len bb_len (da_cons (dv 8) da_nil))))
    (dss_one (ds_expr (de_app (dv 8) (de_cT oc_tuple rfl Z.f_tuple bb_tuple (da_cons (de_lc rfl nd__law_trimmed (di_tup (de_ix (dv 1) (dv 5))) (blkOk_by (own := [("literal", 4)]) (N := N__law_trimmed) (sc := defScope st__law_trimmed) (by decide +kernel)) (fun _ _ _ _ _ => pg_name (i := 4) nd__law_trimmed rfl (Or.inl rfl)) (fun _ _ _ _ _ => dts_nil) (fun _ _ _ _ _ => (de_op od_addT (de_op od_mul de_int (de_get B.blk.units1 (dv 6) (de_op od_div (dv 4) de_int))) (de_op od_mod (dv 4) de_int)))) da_nil)))))) dss_nil)))
    (dss_one (ds_ret (de_tup (da_cons (de_cT oc_tuple rfl Z.f_tuple bb_tuple (da_cons (dv 8) da_nil)) (da_cons (de_lc rfl nd__law_trimmed (di_lst (dv 2)) (blkOk_by (own := [("literal", 4)]) (N := N__law_trimmed) (sc := defScope st__law_trimmed) (by decide +kernel)) (fun _ _ _ _ _ => pg_name (i := 4) nd__law_trimmed rfl (Or.inl rfl)) (fun _ _ _ _ _ => dts_nil) (fun _ _ _ _ _ => (de_op od_addT (de_op od_mul de_int (de_get B.blk.units1 (dv 6) (de_op od_div (dv 4) de_int))) (de_op od_mod (dv 4) de_int)))) da_nil))))))))))) ?_, Z.g__law_trimmed, F.kp, hb⟩
  rintro ds S Q E hl ⟨g, start, ps, ends, rfl, hg, hps, hen, hb2, hq⟩
  rw [show startD N__law_trimmed [.int (start : Nat), .ref g, .lst (ends.map nat)] = [some (.int (start : Nat)), some (.ref g), some (.lst (ends.map nat)), none, none, none, none, none, none] from rfl]
  clear hl
  have hs := hg.l1
  have ho := hg.o
  refine seq_cut (fun ρ S1 => ρ = [some (.int (start : Nat)), some (.ref g), some (.lst (ends.map nat)), some (.lst ((ends.map (· / 2)).map nat)), none, none, none, none, none] ∧ S1 = S) (fun Rest hR => ?_) ?_
  · walk_at "nd"
    refine lcR_n (fun n => nat (n / 2)) ends [] S (fun n _ Q' q => ?_) (by simp; omega) ?_
    · walk_at "nd"
      exact ⟨⟨by decide, by decide⟩, by first | exact q | trivial⟩
    · rw [List.nil_append]
      have e : (ends.map fun n => nat (n / 2)) = (ends.map (· / 2)).map nat := by rw [List.map_map]; rfl
      rw [e]
      exact hR _ _ ⟨rfl, rfl⟩
  rintro ρ S1 ⟨rfl, rfl⟩
  /- the first loop -/
  refine seq_cut (fun ρ S2 => ∃ (U : List Nat) (x : Option D), (∀ l ∈ ends, l / 2 ∈ U) ∧ U.length ≤ 200 ∧ (∀ (k : Nat) (p : Nat × Nat), ps[k]? = some p → start + k ∈ U → p.1 / 2 ∈ U ∧ p.2 / 2 ∈ U) ∧
    ρ = [some (.int (start : Nat)), some (.ref g), some (.lst (ends.map nat)), some (.lst (U.map nat)), none, x, none, none, none] ∧ S2 = S1) (fun Rest hR => ?_) ?_
  · walk_at "nd"
    refine ⟨by omega, by omega, by decide, by decide, ?_⟩
    have er : rngN ((ps.length : Int) - 1) ((ps.length : Int) - 1 - -1).toNat = (List.range' 0 ps.length).map fun (k : Nat) => D.int ((ps.length : Int) - 1 - (k : Int)) := by
      unfold rngN
      rw [show ((ps.length : Int) - 1 - -1).toNat = ps.length by omega, List.range_eq_range']
    rw [er]
    refine for_ind (fun ds ρ S' => ∃ (j m : Nat) (U : List Nat) (x : Option D), ds = (List.range' j m).map (fun (k : Nat) => D.int ((ps.length : Int) - 1 - (k : Int))) ∧ j + m = ps.length ∧ (∀ l ∈ ends, l / 2 ∈ U) ∧ U.length ≤ 50 + 2 * j ∧
      (∀ (k : Nat) (p : Nat × Nat), ps.length ≤ k + j → ps[k]? = some p → start + k ∈ U → p.1 / 2 ∈ U ∧ p.2 / 2 ∈ U) ∧
      ρ = [some (.int (start : Nat)), some (.ref g), some (.lst (ends.map nat)), some (.lst (U.map nat)), none, x, none, none, none] ∧ S' = S1) ?_ ?_ _ _ _ ⟨0, ps.length, ends.map (· / 2), none, rfl, by omega, fun l hl => List.mem_map.mpr ⟨l, hl, rfl⟩, by rw [List.length_map]; omega, fun k p h1 h2 => absurd (List.getElem?_eq_some_iff.mp h2).1 (by omega), rfl, rfl⟩
    · rintro ρ S' ⟨j, m, U, x, e1, e2, u1, u2, u3, rfl, rfl⟩
      have hm : m = 0 := by
        cases m with
        | zero => rfl
        | succ m => rw [List.range'_succ] at e1; cases e1
      exact hR _ _ ⟨U, x, u1, by omega, fun k p h => u3 k p (by omega) h, rfl, rfl⟩
    · rintro d ds ρ S' W hW ⟨j, m, U, x, e1, e2, u1, u2, u3, rfl, rfl⟩
      cases m with
      | zero => cases e1
      | succ m =>
        rw [List.range'_succ, List.map_cons] at e1
        injection e1 with e1 e3
        subst e1 e3
        have ek : (ps.length : Int) - 1 - (j : Int) = ((ps.length - 1 - j : Nat) : Int) := by omega
        rw [ek]
        generalize hkk : ps.length - 1 - j = kk
        have hk : kk < ps.length := by omega
        have hgk : ps[kk]? = some ps[kk] := List.getElem?_eq_getElem hk
        walk_at "nd"
        rw [gIn_nat]
        refine ⟨_, rfl, ?_⟩
        by_cases hm : start + kk ∈ U
        · rw [if_pos (by rw [decide_eq_true hm]; rfl)]
          refine ⟨DL.prD ps[kk], ?_, ?_⟩
          · rw [ho]
            show atI (ps.map DL.prD) ((kk : Nat) : Int) = _
            rw [atIn, List.getElem?_map, hgk]
            rfl
          · unfold DL.prD
            walk_at "nd"
            refine lcR_n (fun n => nat (n / 2)) [ps[kk].1, ps[kk].2] [] S' (fun n _ Q' q => ?_) (show 0 + 2 ≤ 100000 by omega) ?_
            · walk_at "nd"
              exact ⟨⟨by decide, by decide⟩, by first | exact q | trivial⟩
            · refine ⟨sz5 (by simp; omega), hW _ _ ⟨j + 1, m, U ++ [ps[kk].1 / 2, ps[kk].2 / 2], _, rfl, by omega, fun l hl => List.mem_append_left _ (u1 l hl), by rw [List.length_append]; show U.length + 2 ≤ _; omega, fun k p h1 h2 h3 => ?_, by rw [List.map_append]; rfl, rfl⟩⟩
              have hgs := hg.g kk _ hgk
              by_cases e : k = kk
              · subst e
                rw [hgk] at h2
                cases h2
                exact ⟨List.mem_append_right _ List.mem_cons_self, List.mem_append_right _ (List.mem_cons_of_mem _ List.mem_cons_self)⟩
              · have h4 : start + k ∈ U := by
                  rcases List.mem_append.mp h3 with z | z
                  · exact z
                  · exfalso
                    simp only [List.mem_cons, List.not_mem_nil, or_false] at z
                    omega
                obtain ⟨q1, q2⟩ := u3 k p (by omega) h2 h4
                exact ⟨List.mem_append_left _ q1, List.mem_append_left _ q2⟩
        · rw [if_neg (by rw [decide_eq_false hm]; decide)]
          refine hW _ _ ⟨j + 1, m, U, _, rfl, by omega, u1, by omega, fun k p h1 h2 h3 => ?_, rfl, rfl⟩
          by_cases e : k = kk
          · subst e
            exact absurd h3 hm
          · exact u3 k p (by omega) h2 h3
  rintro ρ S2 ⟨U, x, hU1, hU2, hU3, rfl, rfl⟩
  refine seq_cut (fun ρ S3 => ∃ (a : Addr) (kvs : List (DK × D)), S2 a = none ∧ kvs.length ≤ start ∧ (∀ j, j < start → valD kvs (.inl (j : Nat)) = some (nat j)) ∧
    ρ = [some (.int (start : Nat)), some (.ref g), some (.lst (ends.map nat)), some (.lst (U.map nat)), none, x, some (.ref a), none, none] ∧ S3 = sup S2 a (.dic kvs)) (fun Rest hR => ?_) ?_
  · walk_at "nd"
    refine ⟨by omega, by omega, ?_⟩
    rw [rng_nat]
    refine lcR_n (fun n => .tup [nat n, nat n]) (List.range' 0 start) [] S2 (fun n _ Q' q => ?_) (by rw [List.length_range']; show 0 + start ≤ _; omega) ?_
    · walk_at "nd"
    · refine ⟨_, pairsD_nat nat _, fun a ha => hR _ _ ⟨a, _, ha, ?_, fun j hj => ?_, rfl, rfl⟩⟩
      · have := merge_len nat (List.range' 0 start) []
        rw [List.length_range'] at this
        simpa using this
      · rw [valD_merge, if_pos (by rw [List.mem_range'_1]; omega)]
  rintro ρ S3 ⟨a, kvs, ha, hk1, hk2, rfl, rfl⟩
  have hga : g ≠ a := fun z => by rw [z, ha] at ho; cases ho
  refine seq_cut (fun ρ S4 => ∃ b : Addr, S2 b = none ∧ b ≠ a ∧ ρ = [some (.int (start : Nat)), some (.ref g), some (.lst (ends.map nat)), some (.lst (U.map nat)), none, x, some (.ref a), none, some (.ref b)] ∧ S4 = sup (sup S2 a (.dic kvs)) b (.lst [])) (fun Rest hR => ?_) ?_
  · walk_at "nd"
    refine fun b hb => ?_
    have hba : b ≠ a := fun z => by rw [z, sup_same] at hb; cases hb
    exact hR _ _ ⟨b, by rw [sup_ne hba] at hb; exact hb, hba, rfl, rfl⟩
  rintro ρ S4 ⟨b, hb0, hba, rfl, rfl⟩
  have hgb : g ≠ b := fun z => by rw [z, hb0] at ho; cases ho
  have hog : ∀ (kv : List (DK × D)) (kp : List (Nat × Nat)), sup (sup S2 a (.dic kv)) b (gaO kp) g = some (gaO ps) := fun kv kp => by rw [sup_ne hgb, sup_ne hga]; exact ho
  refine seq_cut (fun ρ S5 => ∃ (kv : List (DK × D)) (kp : List (Nat × Nat)) (x : Option D), Gs start kp ∧ kp.length ≤ ps.length ∧ (∀ j, j < start + ps.length → (j < start ∨ j ∈ U) → ∃ v, valD kv (.inl (j : Nat)) = some (nat v) ∧ v < start + kp.length) ∧
    ρ = [some (.int (start : Nat)), some (.ref g), some (.lst (ends.map nat)), some (.lst (U.map nat)), none, x, some (.ref a), none, some (.ref b)] ∧ S5 = sup (sup S2 a (.dic kv)) b (gaO kp)) (fun Rest hR => ?_) ?_
  · walk_at "nd"
    rw [show sup (sup S2 a (DO.dic kvs)) b (DO.lst []) g = some (gaO ps) from hog kvs []]
    show -2 ^ 62 ≤ (((ps.map DL.prD).length : Nat) : Int) ∧ (((ps.map DL.prD).length : Nat) : Int) < 2 ^ 62 ∧ forR _ _ _ _ _ _
    rw [List.length_map]
    refine ⟨by omega, by omega, ?_⟩
    rw [rng_nat]
    refine for_ind (fun ds ρ S' => ∃ (k m : Nat) (kv : List (DK × D)) (kp : List (Nat × Nat)) (x : Option D), ds = (List.range' k m).map nat ∧ k + m = ps.length ∧ Gs start kp ∧ kp.length ≤ k ∧ kv.length ≤ start + k ∧ (∀ j, j < start + k → (j < start ∨ j ∈ U) → ∃ v, valD kv (.inl (j : Nat)) = some (nat v) ∧ v < start + kp.length) ∧
      ρ = [some (.int (start : Nat)), some (.ref g), some (.lst (ends.map nat)), some (.lst (U.map nat)), none, x, some (.ref a), none, some (.ref b)] ∧ S' = sup (sup S2 a (.dic kv)) b (gaO kp)) ?_ ?_ _ _ _
      ⟨0, ps.length, kvs, [], x, rfl, by omega, fun k p h => by simp at h, Nat.le_refl _, hk1, fun j h1 _ => ⟨j, hk2 j (by omega), by show j < start + 0; omega⟩, rfl, rfl⟩
    · rintro ρ S' ⟨k, m, kv, kp, x, e1, e2, g1, g2, g3, g4, rfl, rfl⟩
      have hm : m = 0 := by
        cases m with
        | zero => rfl
        | succ m => rw [List.range'_succ] at e1; cases e1
      exact hR _ _ ⟨kv, kp, x, g1, by omega, fun j h1 h2 => g4 j (by omega) h2, rfl, rfl⟩
    · rintro d ds ρ S' W hW ⟨k, m, kv, kp, x, e1, e2, g1, g2, g3, g4, rfl, rfl⟩
      cases m with
      | zero => cases e1
      | succ m =>
        rw [List.range'_succ, List.map_cons] at e1
        injection e1 with e1 e3
        subst e1 e3
        have hk : k < ps.length := by omega
        have hgk : ps[k]? = some ps[k] := List.getElem?_eq_getElem hk
        have hgs := hg.g k _ hgk
        refine ifS_cut (decide (start + k ∈ U)) (fun Q' q => ?_) (fun hb3 => ?_) (fun hb3 => ?_)
        · clear hW hq hog g4 hU3 hk2
          walk_at "nd"
          rw [gIn_nat]
          exact ⟨_, rfl, q⟩
        · have hm := of_decide_eq_true hb3
          refine seq_cut (fun ρ S6 => ρ = [some (.int (start : Nat)), some (.ref g), some (.lst (ends.map nat)), some (.lst (U.map nat)), none, some (nat k), some (.ref a), none, some (.ref b)] ∧ S6 = sup (sup S2 a (.dic (putD kv (.inl ((start + k : Nat) : Int)) (nat (start + kp.length))))) b (gaO kp)) (fun Rest2 hR2 => ?_) ?_
          · clear hW hq hog g4 hU3 hk2 hR
            walk_at "nd"
            refine ⟨kv, by rw [sup_ne hba.symm, sup_same], .inl ((start + k : Nat) : Int), rfl, Nat.lt_of_lt_of_le (show kv.length < 1000 by omega) (sz5 (by omega)), hR2 _ _ ⟨rfl, ?_⟩⟩
            rw [sup_swap hba]
          rintro ρ S6 ⟨rfl, rfl⟩
          have g5 : ∀ j, j < start + k → (j < start ∨ j ∈ U) → valD (putD kv (.inl ((start + k : Nat) : Int)) (nat (start + kp.length))) (.inl (j : Nat)) = valD kv (.inl (j : Nat)) := fun j h1 _ => by
            rw [valD_put, if_neg (fun z => by injection z with z; omega)]
          generalize hkv : putD kv (.inl ((start + k : Nat) : Int)) (nat (start + kp.length)) = kv' at g5 ⊢
          have hev : sup (sup S2 a (.dic kv')) b (gaO kp) a = some (.dic kv') := by rw [sup_ne hba.symm, sup_same]
          have hgv : sup (sup S2 a (.dic kv')) b (gaO kp) g = some (gaO ps) := hog kv' kp
          have hbv : sup (sup S2 a (.dic kv')) b (gaO kp) b = some (gaO kp) := sup_same
          refine ⟨.ref b, rfl, ⟨_, _, rfl, hbv⟩, ?_⟩
          refine ⟨.ref g, rfl, nat k, rfl, DL.prD ps[k], ?_, ?_⟩
          · unfold ixP
            rw [vw_ref hgv]
            show atI (ps.map DL.prD) ((k : Nat) : Int) = _
            rw [atIn, List.getElem?_map, hgk]
            rfl
          have hU3k := hU3 k _ hgk hm
          obtain ⟨v1, w1, w2⟩ := g4 (ps[k].1 / 2) (by omega) (.inr hU3k.1)
          obtain ⟨v2, w3, w4⟩ := g4 (ps[k].2 / 2) (by omega) (.inr hU3k.2)
          rw [← g5 _ (by omega) (.inr hU3k.1)] at w1
          rw [← g5 _ (by omega) (.inr hU3k.2)] at w3
          show lcR 4 tdYes _ _ (([ps[k].1, ps[k].2]).map nat) [] _ _
          refine lcR_n (fun l => nat (num kv' l)) [ps[k].1, ps[k].2] [] _ (fun l hl Q' q => num_go hev ?_ q) (show 0 + 2 ≤ 100000 by omega) ?_
          · simp only [List.mem_cons, List.not_mem_nil, or_false] at hl
            rcases hl with rfl | rfl
            · exact ⟨v1, w1⟩
            · exact ⟨v2, w3⟩
          · skip
            dsimp only [tdNil, tdCons]
            refine gTuple_lst ?_
            refine ⟨b, _, rfl, hbv, by rw [List.length_map]; exact Nat.lt_of_lt_of_le (show kp.length < 1000 by omega) (sz5 (by omega)), ?_⟩
            refine hW _ _ ⟨k + 1, m, kv', kp ++ [(num kv' ps[k].1, num kv' ps[k].2)], _, rfl, by omega, ?_, by rw [List.length_append]; show kp.length + 1 ≤ _; omega, ?_, ?_, rfl, ?_⟩
            · refine g1.snoc ?_ ?_
              · rw [num_at w1]; omega
              · rw [num_at w3]; omega
            · rw [← hkv]
              have := put_len kv (.inl ((start + k : Nat) : Int)) (nat (start + kp.length))
              omega
            · intro j h1 h2
              rw [List.length_append]
              show ∃ v, _ ∧ v < start + (kp.length + 1)
              by_cases e : j = start + k
              · subst e
                refine ⟨start + kp.length, ?_, by omega⟩
                rw [← hkv, valD_put, if_pos rfl]
              · obtain ⟨v, v1, v2⟩ := g4 j (by omega) h2
                rw [← g5 j (by omega) h2] at v1
                exact ⟨v, v1, by omega⟩
            · rw [sup_sup, List.nil_append]
              show _ = sup _ b (.lst ((kp ++ [(num kv' ps[k].1, num kv' ps[k].2)]).map DL.prD))
              rw [List.map_append]
              rfl
        · have hm := of_decide_eq_false hb3
          refine hW _ _ ⟨k + 1, m, kv, kp, _, rfl, by omega, g1, by omega, by omega, fun j h1 h2 => ?_, rfl, rfl⟩
          by_cases e : j = start + k
          · subst e
            rcases h2 with z | z
            · exact absurd z (by omega)
            · exact absurd z hm
          · exact g4 j (by omega) h2
  rintro ρ S5 ⟨kv, kp, x, g1, g2, g3, rfl, rfl⟩
  have hev : sup (sup S2 a (.dic kv)) b (gaO kp) a = some (.dic kv) := by rw [sup_ne hba.symm, sup_same]
  have hnum : ∀ l ∈ ends, ∃ v, valD kv (.inl ((l / 2 : Nat) : Int)) = some (nat v) ∧ v < start + kp.length := fun l hl => g3 (l / 2) (by have := hb2 l hl; omega) (.inr (hU1 l hl))
  refine ⟨.ref b, rfl, ?_⟩
  dsimp only [tdNil, tdCons]
  refine gTuple_ref (ds := kp.map DL.prD) sup_same ?_
  refine ⟨.lst (ends.map nat), rfl, ?_⟩
  refine lcR_n (fun l => nat (num kv l)) ends [] _ (fun l hl Q' q => num_go hev (by
    obtain ⟨v, h1, _⟩ := hnum l hl
    exact ⟨v, h1⟩) q) (show 0 + ends.length ≤ _ by omega) ?_
  have e1 : (ends.map fun l => nat (num kv l)) = (ends.map (num kv)).map nat := by rw [List.map_map]; rfl
  rw [List.nil_append, e1]
  refine ⟨sz5 (show 2 ≤ 1000000 by decide), fini (hq kp (ends.map (num kv)) _ (Sub.sup2 (Sub.sup ha) hb0) g1 g2 (List.length_map _) fun l hl => ?_)⟩
  obtain ⟨l0, h0, rfl⟩ := List.mem_map.mp hl
  obtain ⟨v, h1, h2⟩ := hnum l0 h0
  rw [num_at h1]
  omega
end K06
namespace K06
open PySem PySem.Spec L2 DL
local macro_rules | `(tactic| walk_at "nd") => `(tactic| simp only [icO, isN0, gCatB, gEq_bb, tdLcB, tdDNew, tdNNew, tdNGet, tdNPut, tdFGet, tdiF, tdDctF, tdDc, tdDcN, tdTru, tdDAugG, tdDictZ, tdCallV, tdLc2, ln_4, ln_5, ln_6, fmod_2, fdiv_2, gAddT, tdIdx, gdUnl, tdiD, gSortI, gMin2, gMax2, gTuple, gDictP, tdLcT, lcT, setD, unsetD, tdKGet, tdKGet2, tdGet2, tdPop, tdSeq, tdAsg, tdV, gdName, tdAnd, tdOr, tdNot, tdB, tdOp, tdCB, tdCons, tdNil, tdC, tdAug, tdSl, tdP, tdRet, tdTup, tdIf, tdIfS, gOrd, gI0, gI, gLen, gIx, gAdd, gInt, vw, ixP, gSl, tdDrop, tdRetN, tdNext, gIn_sc, gIn_ts, gIn_ls, gIn_t2, gIn_l2, gIn_l4, tdApp, sl_0, sl_1, sl_2, sl_3, sl_4, sl_5, ff, tt', true_and, id,
  eqS, tdFor, tdiT, tdiL, tdiR, tdXp, gList, gEq_ns, tdJoin, gJoin, vwS, gMul, gMod, gDiv, gPow, gI, tdAugS, gdSub, gSet, ixN_2, ixN_3, atI_3, atI_4, gEq_ss, gEq_ii, tdDict, tdPairs, tdNeg, Option.isNone_none, Option.isNone_some, gIsi, tdGet, tdDPut, tdDAug, tdIsN, tdNotN, DO.dic.injEq, Option.isNone_none, Option.isNone_some, gIn_l2, gIn_t2, Option.getD_some, tdLc, gMax, tdNoP, forR, tdRaise, tdCall, tdNotV, tdAndV, tdOrV, tdBox, tdZ, gdTup, gdCons, gdNil, tdBreak, tdCont, tdYes, icast, icast1, icast2, icast3, tdLst, gIn_l4, icastL, icastE, icastZ, ln_0, ln_1, ln_2, ln_3,
  List.getElem?_cons_zero, List.getElem?_cons_succ, List.set_cons_zero, List.set_cons_succ, Option.some.injEq, exists_eq_left', exists_eq_left, D.bl.injEq, decide_eq_true_eq,
  tdFldC, tdMeth, tdMake, tdPutF, tdAugF, D.ref.injEq, DO.ins.injEq, and_assoc, DL.gSub, D.int.injEq, D.str.injEq, sup_same, eq_self, not_true_eq_false, not_false_eq_true, Bool.false_eq_true, Bool.not_eq_true, decide_not, atIn, atI_0, atI_1, atI_2, List.getElem?_map, Option.map_some, Option.map_none, decide_true, decide_false, Bool.not_true, Bool.not_false, if_true, if_false, lm_0, lm_1, lm_2, List.length_map, exists_and_left, *])
variable {P : Program} {w : World} {K : PySem.W.Frag} {mg : Str → Option Value} {base : Heap}
/-- the drawer's list -/
def DrO (o : DO) : Prop := ∃ ns p big seed, o = stO ns p big seed ∧ StOk big seed
theorem next_go {a : Addr} {S : Store} {o : DO} {lim : Nat} {Q : D → Store → Prop} {E : XD} (h : S a = some o) (ho : DrO o) (h0 : 0 < lim) (h1 : lim ≤ 100000) (q : ∀ (r : Nat) (o' : DO), r < lim → DrO o' → Q (.int (r : Nat)) (sup S a o')) :
    m_law_next [.ref a, .int (lim : Nat)] S Q E := by
  obtain ⟨ns, p, big, seed, rfl, hs⟩ := ho
  exact ⟨a, ns, p, big, seed, lim, rfl, h, hs, h0, h1, fun r p' big' seed' hr hs' => q r _ hr ⟨ns, p', big', seed', rfl, hs'⟩⟩
/-- what a walk that draws keeps -/
structure Dw (a : Addr) (S0 S : Store) : Prop where
  o : ∃ o, DrO o ∧ S a = some o
  k : ∀ b u, b ≠ a → S0 b = some u → S b = some u
theorem next_w {a : Addr} {S0 S : Store} {lim : Nat} {Q : D → Store → Prop} {E : XD} (h : Dw a S0 S) (h0 : 0 < lim) (h1 : lim ≤ 100000)
    (q : ∀ (r : Nat) (S' : Store), r < lim → Dw a S0 S' → (∀ b u, b ≠ a → S b = some u → S' b = some u) → Q (.int (r : Nat)) S') : m_law_next [.ref a, .int (lim : Nat)] S Q E := by
  obtain ⟨⟨o, ho, ha⟩, k⟩ := h
  refine next_go ha ho h0 h1 fun r o' hr ho' => q r _ hr ⟨⟨o', ho', sup_same⟩, fun b u hb e => ?_⟩ fun b u hb e => ?_
  · rw [sup_ne hb]; exact k b u hb e
  · rw [sup_ne hb]; exact e
theorem Dw.init {a : Addr} {S : Store} {o : DO} (h : S a = some o) (ho : DrO o) : Dw a S S := ⟨⟨o, ho, h⟩, fun _ _ _ e => e⟩
theorem Dw.ne {a p : Addr} {S0 S : Store} (h : Dw a S0 S) (hp : S p = none) : p ≠ a ∧ S0 p = none := by
  obtain ⟨o, _, ha⟩ := h.o
  have hpa : p ≠ a := fun z => by rw [z, ha] at hp; cases hp
  refine ⟨hpa, ?_⟩
  cases q : S0 p with
  | none => rfl
  | some u => rw [h.k p u hpa q] at hp; cases hp
theorem Dw.put {a p : Addr} {S0 S : Store} {o : DO} (h : Dw a S0 S) (hp : p ≠ a) (h0 : S0 p = none) : Dw a S0 (sup S p o) := by
  obtain ⟨⟨o', ho, ha⟩, k⟩ := h
  refine ⟨⟨o', ho, by rw [sup_ne hp.symm]; exact ha⟩, fun b u hb e => ?_⟩
  rw [sup_ne (fun z => by rw [z, h0] at e; cases e)]
  exact k b u hb e
theorem Dw.del {a p : Addr} {S0 S : Store} (h : Dw a S0 S) (hp : p ≠ a) (h0 : S0 p = none) : Dw a S0 (sdel S p) := by
  obtain ⟨⟨o', ho, ha⟩, k⟩ := h
  refine ⟨⟨o', ho, by unfold sdel; rw [if_neg hp.symm]; exact ha⟩, fun b u hb e => ?_⟩
  unfold sdel
  rw [if_neg (fun z => by rw [z, h0] at e; cases e)]
  exact k b u hb e
/-- a step of a drawn design -/
structure Sp1 where
  w : Tx
  a : Nat
  t : Nat
  b : Nat
  u : Nat
def Sp1.d (s : Sp1) : D := .tup [.str s.w, .tup [nat s.a, nat s.t], .tup [nat s.b, nat s.u]]
def Sp1.ok (src k : Nat) (s : Sp1) : Prop := (s.w = tx "and" ∨ s.w = tx "or" ∨ s.w = tx "unlike") ∧ s.a < src + k ∧ s.b < src + k ∧ s.t < 2 ∧ s.u < 2
def SpOk (src : Nat) (l : List Sp1) : Prop := ∀ (k : Nat) (s : Sp1), l[k]? = some s → s.ok src k
def endD (p : Nat × Nat) : D := .tup [nat p.1, nat p.2]
theorem lcR_ind {v : Nat} {te : TD} {ρ : Rho} {Q : List D → Store → Prop} (J : List D → List D → Store → Prop) (h0 : ∀ acc S, J [] acc S → Q acc S)
    (h : ∀ d ds acc S (W : D → Store → Prop), (∀ y S', J ds (acc ++ [y]) S' → W y S') → J (d :: ds) acc S → te (ρ.set v (some d)) S fun y S' => acc.length < sizeLine ∧ W y S') :
    ∀ (ds acc : List D) (S : Store), J ds acc S → lcR v tdYes te ρ ds acc S Q
  | [], acc, S, j => h0 acc S j
  | d :: ds, acc, S, j => by
    unfold lcR
    show if true = true then (te (ρ.set v (some d)) S fun y S2 => acc.length < sizeLine ∧ lcR v tdYes te ρ ds (acc ++ [y]) S2 Q) else (lcR v tdYes te ρ ds acc S Q)
    exact iteT (h d ds acc S _ (fun y S' j' => lcR_ind J h0 h ds (acc ++ [y]) S' j') j)
def m_design : M := fun ds S Q E => ∃ (a : Addr) (o : DO) (ins regs most : Nat), ds = [.ref a, .int (ins : Nat), .int (regs : Nat), .int (most : Nat)] ∧ S a = some o ∧ DrO o ∧ 1 ≤ ins ∧ ins ≤ 4 ∧ 1 ≤ regs ∧ regs ≤ 4 ∧ 1 ≤ most ∧ most ≤ 10 ∧
  ∀ (o' : DO) (fs : List Bool) (sps : List Sp1) (es : List (Nat × Nat)), DrO o' → fs.length = regs → SpOk (ins + regs) sps → sps.length ≤ most → es.length ≤ 3 + regs → regs < es.length → (∀ e ∈ es, e.1 < ins + regs + sps.length ∧ e.2 < 2) →
    ∀ S', (∀ b u, b ≠ a → S b = some u → S' b = some u) → S' a = some o' → Q (.tup [.int (ins : Nat), .lst (fs.map D.bl), .lst (sps.map Sp1.d), .lst (es.map endD)]) S'
theorem d__law_design (Z : Zf P w K mg base) : Ca P w K mg base 2 "_law_design" ["state", "inputs", "registers", "most"] m_design := by
  obtain ⟨fd, F, hb⟩ := Z.F__law_design
  refine ⟨_, fd, df_of (k := 1) F sc__law_design (fun cdv A outer s H E F0 E' B => (dss_cons (ds_set 4 nd__law_design (de_box da_nil))
    (dss_cons (ds_set 5 nd__law_design (de_op od_addT (dv 1) (dv 2)))
    (dss_cons (ds_for (passes_of rfl) rfl (di_rng rfl Z.f_range (da_cons (de_op od_addT de_int (de_ca (d__law_next Z) (B.mono (by omega)) rfl (da_cons (dv 0) (da_cons (dv 3) da_nil)))) da_nil)) (dg_name 6 nd__law_design) (dss_cons (ds_set 7 nd__law_design (de_ix (de_lst (da_cons de_str (da_cons de_str (da_cons de_str (da_cons de_str da_nil))))) (de_ca (d__law_next Z) (B.mono (by omega)) rfl (da_cons (dv 0) (da_cons de_int da_nil)))))
    (dss_cons (ds_set 8 nd__law_design (de_ca (d__law_next Z) (B.mono (by omega)) rfl (da_cons (dv 0) (da_cons (de_op od_addT (dv 5) (dv 6)) da_nil))))
    (dss_cons (ds_if (PW.pt (dw_and (dt_cmp (od_ord op_gt) (dv 6) de_int rfl) (dw_and1 (dt_cmp (od_ord op_gt) (de_ca (d__law_next Z) (B.mono (by omega)) rfl (da_cons (dv 0) (da_cons de_int da_nil))) de_int rfl)))) (dss_one (ds_set 8 nd__law_design (de_op od_addT (dv 5) (de_cB (oc_max2 rfl) rfl Z.f_max bb_max (da_cons de_int (da_cons (de_op od_sub (de_op od_sub (dv 6) de_int) (de_ca (d__law_next Z) (B.mono (by omega)) rfl (da_cons (dv 0) (da_cons de_int da_nil)))) da_nil)))))) dss_nil)
    (dss_cons (ds_set 9 nd__law_design (de_ca (d__law_next Z) (B.mono (by omega)) rfl (da_cons (dv 0) (da_cons (de_op od_addT (dv 5) (dv 6)) da_nil))))
    (dss_cons (ds_if (PW.pt (dw_and (dt_cmp (od_eq B.units) (dv 9) (dv 8) rfl) (dw_and1 (dt_cmp (od_ord op_gt) (de_ca (d__law_next Z) (B.mono (by omega)) rfl (da_cons (dv 0) (da_cons de_int da_nil))) de_int rfl)))) (dss_one (ds_set 9 nd__law_design (de_if (dt_cmp (od_ord op_gt) (dv 8) de_int rfl) (de_op od_sub (dv 8) de_int) (de_cB (oc_min2 rfl) rfl Z.f_min bb_min (da_cons de_int (da_cons (de_op od_sub (de_op od_addT (dv 5) (dv 6)) de_int) da_nil)))))) dss_nil)
    (dss_one (ds_expr (de_app (dv 4) (de_tup (da_cons (dv 7) (da_cons (de_tup (da_cons (dv 8) (da_cons (de_ca (d__law_next Z) (B.mono (by omega)) rfl (da_cons (dv 0) (da_cons de_int da_nil))) da_nil))) (da_cons (de_tup (da_cons (dv 9) (da_cons (de_ca (d__law_next Z) (B.mono (by omega)) rfl (da_cons (dv 0) (da_cons de_int da_nil))) da_nil))) da_nil)))))))))))))
    (dss_cons (ds_set 10 nd__law_design (de_box da_nil))
    (dss_cons (ds_for (passes_of rfl) rfl (di_rng rfl Z.f_range (da_cons (de_op od_addT (de_op od_addT de_int (de_ca (d__law_next Z) (B.mono (by omega)) rfl (da_cons (dv 0) (da_cons de_int da_nil)))) (dv 2)) da_nil)) (dg_name 6 nd__law_design) (dss_cons (ds_set 11 nd__law_design (de_ca (d__law_next Z) (B.mono (by omega)) rfl (da_cons (dv 0) (da_cons (de_op od_addT (dv 5) (de_cB oc_len rfl Z.f_len bb_len (da_cons (dv 4) da_nil))) da_nil))))
    (dss_cons (ds_if (dt_cmp (od_ord op_gt) (de_ca (d__law_next Z) (B.mono (by omega)) rfl (da_cons (dv 0) (da_cons de_int da_nil))) de_int rfl) (dss_one (ds_set 11 nd__law_design (de_cB (oc_max2 rfl) rfl Z.f_max bb_max (da_cons de_int (da_cons (de_op od_sub (de_op od_sub (de_op od_addT (dv 5) (de_cB oc_len rfl Z.f_len bb_len (da_cons (dv 4) da_nil))) de_int) (de_ca (d__law_next Z) (B.mono (by omega)) rfl (da_cons (dv 0) (da_cons de_int da_nil)))) da_nil))))) dss_nil)
    (dss_one (ds_expr (de_app (dv 10) (de_tup (da_cons (dv 11) (da_cons (de_ca (d__law_next Z) (B.mono (by omega)) rfl (da_cons (dv 0) (da_cons de_int da_nil))) da_nil)))))))))
    (dss_cons (ds_setLc 12 rfl nd__law_design rfl rfl (sw_true rfl rfl rfl (by decide +kernel)) (di_rng rfl Z.f_range (da_cons (dv 2) da_nil)) (blkOk_by (own := [("k", 6)]) (N := N__law_design) (sc := defScope st__law_design) (by decide +kernel)) (fun _ _ _ _ _ => pg_name (i := 6) nd__law_design rfl (Or.inl rfl)) (fun _ _ _ _ _ => dts_nil) (fun _ _ _ _ _ => (de_cmp (od_eq B.blk.units) (de_ca (d__law_next Z) (B.blk.mono (by omega)) rfl (da_cons (dv 0) (da_cons de_int da_nil))) de_int rfl)))
    (dss_one (ds_ret (de_tup (da_cons (dv 1) (da_cons (dv 12) (da_cons (dz 4) (da_cons (dz 10) da_nil)))))))))))))) ?_, Z.g__law_design, F.kp, hb⟩
  rintro ds S Q E hl ⟨a, o, ins, regs, most, rfl, ha, ho, h1, h2, h3, h4, h5, h6, hq⟩
  rw [show startD N__law_design [.ref a, .int (ins : Nat), .int (regs : Nat), .int (most : Nat)] = [some (.ref a), some (.int (ins : Nat)), some (.int (regs : Nat)), some (.int (most : Nat)), none, none, none, none, none, none, none, none, none] from rfl]
  clear hl
  refine seq_cut (fun ρ S1 => ∃ p, p ≠ a ∧ S p = none ∧ ρ = [some (.ref a), some (.int (ins : Nat)), some (.int (regs : Nat)), some (.int (most : Nat)), some (.ref p), none, none, none, none, none, none, none, none] ∧ S1 = sup S p (.lst [])) (fun Rest hR => ?_) ?_
  · walk_at "nd"
    exact fun p hp => hR _ _ ⟨p, ((Dw.init ha ho).ne hp).1, hp, rfl, rfl⟩
  rintro ρ S1 ⟨p, hpa, hp, rfl, rfl⟩
  refine seq_cut (fun ρ S2 => ρ = [some (.ref a), some (.int (ins : Nat)), some (.int (regs : Nat)), some (.int (most : Nat)), some (.ref p), some (.int (ins + regs : Nat)), none, none, none, none, none, none, none] ∧ S2 = sup S p (.lst [])) (fun Rest hR => ?_) ?_
  · walk_at "nd"
  rintro ρ S2 ⟨rfl, rfl⟩
  have hd0 : Dw a S (sup S p (.lst [])) := (Dw.init ha ho).put hpa hp
  generalize hsrc : ins + regs = src
  refine seq_cut (fun ρ S3 => ∃ (sps : List Sp1) (x6 x7 x8 x9 : Option D), ρ = [some (.ref a), some (.int (ins : Nat)), some (.int (regs : Nat)), some (.int (most : Nat)), some (.ref p), some (.int (src : Nat)), x6, x7, x8, x9, none, none, none] ∧ SpOk src sps ∧ sps.length ≤ most ∧ 1 ≤ sps.length ∧ Dw a S S3 ∧ S3 p = some (.lst (sps.map Sp1.d))) (fun Rest hR => ?_) ?_
  · walk_at "nd"
    refine next_w hd0 (by omega) (by omega) fun r S3 hr hd1 hk1 => ?_
    walk_at "nd"
    refine ⟨by omega, by omega, ?_⟩
    rw [rng_nat]
    have hp3 := hk1 p _ hpa sup_same
    clear hk1 hq
    refine for_ind (fun ds ρ S' => ∃ (j m : Nat) (sps : List Sp1) (x6 x7 x8 x9 : Option D), ds = (List.range' j m).map nat ∧ j + m = 1 + r ∧ sps.length = j ∧ SpOk src sps ∧
      ρ = [some (.ref a), some (.int (ins : Nat)), some (.int (regs : Nat)), some (.int (most : Nat)), some (.ref p), some (.int (src : Nat)), x6, x7, x8, x9, none, none, none] ∧ Dw a S S' ∧ S' p = some (.lst (sps.map Sp1.d))) ?_ ?_ _ _ _
      ⟨0, 1 + r, [], none, none, none, none, rfl, by omega, rfl, fun k s h => by simp at h, rfl, hd1, hp3⟩
    · rintro ρ S' ⟨j, m, sps, x6, x7, x8, x9, e1, e2, e3, e4, rfl, hd, hp'⟩
      have hm : m = 0 := by
        cases m with
        | zero => rfl
        | succ m => rw [List.range'_succ] at e1; cases e1
      exact hR _ _ ⟨sps, x6, x7, x8, x9, rfl, e4, by omega, by omega, hd, hp'⟩
    · rintro d ds ρ S' W hW ⟨j, m, sps, x6, x7, x8, x9, e1, e2, e3, e4, rfl, hd, hp'⟩
      cases m with
      | zero => cases e1
      | succ m =>
        rw [List.range'_succ, List.map_cons] at e1
        injection e1 with e1 e5
        subst e1 e5
        clear hR
        show tdSeq _ _ _ [some (.ref a), some (.int (ins : Nat)), some (.int (regs : Nat)), some (.int (most : Nat)), some (.ref p), some (.int (src : Nat)), some (nat j), x7, x8, x9, none, none, none] S'
        have hsrc2 : 2 ≤ src := by omega
        refine seq_cut (fun ρ S1 => ∃ wd, ρ = [some (.ref a), some (.int (ins : Nat)), some (.int (regs : Nat)), some (.int (most : Nat)), some (.ref p), some (.int (src : Nat)), some (nat j), some (.str wd), x8, x9, none, none, none] ∧ (wd = tx "and" ∨ wd = tx "or" ∨ wd = tx "unlike") ∧ Dw a S S1 ∧ S1 p = some (.lst (sps.map Sp1.d))) (fun Rest hR => ?_) ?_
        · clear hW
          walk_at "nd"
          refine next_w (lim := 4) hd (by omega) (by omega) fun q S1 hr2 hd2 hk2 => ?_
          have hp2 := hk2 p _ hpa hp'
          obtain rfl | rfl | rfl | rfl : q = 0 ∨ q = 1 ∨ q = 2 ∨ q = 3 := by omega
          · exact ⟨_, rfl, hR _ _ ⟨_, rfl, .inl rfl, hd2, hp2⟩⟩
          · exact ⟨_, rfl, hR _ _ ⟨_, rfl, .inr (.inl rfl), hd2, hp2⟩⟩
          · exact ⟨_, rfl, hR _ _ ⟨_, rfl, .inl rfl, hd2, hp2⟩⟩
          · exact ⟨_, rfl, hR _ _ ⟨_, rfl, .inr (.inr rfl), hd2, hp2⟩⟩
        clear hp' hd
        rintro ρ S2 ⟨wd, rfl, hwd, hd, hp'⟩
        refine seq_cut (fun ρ S1 => ∃ fi : Nat, fi < src + j ∧ ρ = [some (.ref a), some (.int (ins : Nat)), some (.int (regs : Nat)), some (.int (most : Nat)), some (.ref p), some (.int (src : Nat)), some (nat j), some (.str wd), some (nat fi), x9, none, none, none] ∧ Dw a S S1 ∧ S1 p = some (.lst (sps.map Sp1.d))) (fun Rest hR => ?_) ?_
        · clear hW
          walk_at "nd"
          refine next_w (lim := src + j) hd (by omega) (by omega) fun q S1 hr2 hd2 hk2 => ?_
          exact hR _ _ ⟨q, hr2, rfl, hd2, hk2 p _ hpa hp'⟩
        clear hp' hd
        rintro ρ S2 ⟨fi, hfi, rfl, hd, hp'⟩
        refine seq_cut (fun ρ S1 => ∃ fi : Nat, fi < src + j ∧ ρ = [some (.ref a), some (.int (ins : Nat)), some (.int (regs : Nat)), some (.int (most : Nat)), some (.ref p), some (.int (src : Nat)), some (nat j), some (.str wd), some (nat fi), x9, none, none, none] ∧ Dw a S S1 ∧ S1 p = some (.lst (sps.map Sp1.d))) (fun Rest hR => ?_) ?_
        · clear hW
          have hout := hR _ _ ⟨fi, hfi, rfl, hd, hp'⟩
          walk_at "nd"
          split
          · refine next_w (lim := 4) hd (by omega) (by omega) fun q S1 hr2 hd2 hk2 => ?_
            show if (0 : Int) < (q : Int) then _ else _
            have hp2 := hk2 p _ hpa hp'
            split
            · refine next_w (lim := 3) hd2 (by omega) (by omega) fun q2 S3 hr3 hd3 hk3 => ?_
              show Rest [_, _, _, _, _, _, _, _, some (.int ((src : Int) + max 0 ((j : Int) - 1 - (q2 : Int)))), _, _, _, _] S3
              have e : (src : Int) + max 0 ((j : Int) - 1 - (q2 : Int)) = ((src + (j - 1 - q2) : Nat) : Int) := by omega
              rw [e]
              exact hR _ _ ⟨src + (j - 1 - q2), by omega, rfl, hd3, hk3 p _ hpa hp2⟩
            · exact hR _ _ ⟨fi, hfi, rfl, hd2, hp2⟩
          · trivial
        clear hp' hd hfi
        clear fi
        rintro ρ S2 ⟨fi, hfi, rfl, hd, hp'⟩
        refine seq_cut (fun ρ S1 => ∃ se : Nat, se < src + j ∧ ρ = [some (.ref a), some (.int (ins : Nat)), some (.int (regs : Nat)), some (.int (most : Nat)), some (.ref p), some (.int (src : Nat)), some (nat j), some (.str wd), some (nat fi), some (nat se), none, none, none] ∧ Dw a S S1 ∧ S1 p = some (.lst (sps.map Sp1.d))) (fun Rest hR => ?_) ?_
        · clear hW
          walk_at "nd"
          refine next_w (lim := src + j) hd (by omega) (by omega) fun q S1 hr2 hd2 hk2 => ?_
          exact hR _ _ ⟨q, hr2, rfl, hd2, hk2 p _ hpa hp'⟩
        clear hp' hd
        rintro ρ S2 ⟨se, hse, rfl, hd, hp'⟩
        refine seq_cut (fun ρ S1 => ∃ se : Nat, se < src + j ∧ ρ = [some (.ref a), some (.int (ins : Nat)), some (.int (regs : Nat)), some (.int (most : Nat)), some (.ref p), some (.int (src : Nat)), some (nat j), some (.str wd), some (nat fi), some (nat se), none, none, none] ∧ Dw a S S1 ∧ S1 p = some (.lst (sps.map Sp1.d))) (fun Rest hR => ?_) ?_
        · clear hW
          have hout := hR _ _ ⟨se, hse, rfl, hd, hp'⟩
          walk_at "nd"
          split
          · refine next_w (lim := 8) hd (by omega) (by omega) fun q S1 hr2 hd2 hk2 => ?_
            show if (0 : Int) < (q : Int) then _ else _
            have hp2 := hk2 p _ hpa hp'
            split
            · show if (0 : Int) < (fi : Int) then Rest [_, _, _, _, _, _, _, _, _, some (.int ((fi : Int) - 1)), _, _, _] S1 else Rest [_, _, _, _, _, _, _, _, _, some (.int (min 1 (((src + j : Nat) : Int) - 1))), _, _, _] S1
              split
              · have e : (fi : Int) - 1 = ((fi - 1 : Nat) : Int) := by omega
                rw [e]
                exact hR _ _ ⟨fi - 1, by omega, rfl, hd2, hp2⟩
              · have e : min 1 (((src + j : Nat) : Int) - 1) = ((1 : Nat) : Int) := by omega
                rw [e]
                exact hR _ _ ⟨1, by omega, rfl, hd2, hp2⟩
            · exact hR _ _ ⟨se, hse, rfl, hd2, hp2⟩
          · trivial
        clear hp' hd hse
        clear se
        rintro ρ S2 ⟨se, hse, rfl, hd, hp'⟩
        walk_at "nd"
        refine ⟨⟨_, rfl⟩, next_w (lim := 2) hd (by omega) (by omega) fun q S1 hr2 hd2 hk2 => ?_⟩
        have hp2 := hk2 p _ hpa hp'
        refine next_w (lim := 2) hd2 (by omega) (by omega) fun q2 S4 hr4 hd4 hk4 => ?_
        have hp4 := hk4 p _ hpa hp2
        refine ⟨_, hp4, by rw [List.length_map]; exact Nat.lt_of_lt_of_le (show sps.length < 1000 by omega) (sz5 (by omega)), ?_⟩
        refine hW _ _ ⟨j + 1, m, sps ++ [⟨wd, fi, q, se, q2⟩], some (nat j), some (.str wd), some (nat fi), some (nat se), rfl, by omega, by rw [List.length_append]; show sps.length + 1 = _; omega, fun k s hk => ?_, rfl, hd4.put hpa hp, by rw [sup_same, List.map_append]; rfl⟩
        by_cases hkl : k < sps.length
        · rw [List.getElem?_append_left hkl] at hk
          exact e4 k s hk
        · have hlt := (List.getElem?_eq_some_iff.mp hk).1
          rw [List.length_append] at hlt
          have hlt : k < sps.length + 1 := hlt
          have ek : k = sps.length := by omega
          subst ek
          rw [List.getElem?_append_right (Nat.le_refl _), Nat.sub_self] at hk
          cases hk
          rw [e3]
          exact ⟨hwd, hfi, hse, hr2, hr4⟩
  rintro ρ S3 ⟨sps, x6, x7, x8, x9, rfl, hok, hl1, hl2, hd, hp3⟩
  clear hd0
  refine seq_cut (fun ρ S4 => ∃ q, q ≠ a ∧ q ≠ p ∧ S q = none ∧ ρ = [some (.ref a), some (.int (ins : Nat)), some (.int (regs : Nat)), some (.int (most : Nat)), some (.ref p), some (.int (src : Nat)), x6, x7, x8, x9, some (.ref q), none, none] ∧ Dw a S S4 ∧ S4 p = some (.lst (sps.map Sp1.d)) ∧ S4 q = some (.lst [])) (fun Rest hR => ?_) ?_
  · clear hq
    walk_at "nd"
    refine fun q hq => hR _ _ ⟨q, (hd.ne hq).1, (fun z => by rw [z, hp3] at hq; cases hq), (hd.ne hq).2, rfl, hd.put (hd.ne hq).1 (hd.ne hq).2, ?_, sup_same⟩
    rw [sup_ne (fun z => by rw [← z, hp3] at hq; cases hq)]
    exact hp3
  clear hd hp3
  rintro ρ S4 ⟨q, hqa, hqp, hq0, rfl, hd, hp4, hq4⟩
  refine seq_cut (fun ρ S5 => ∃ (es : List (Nat × Nat)) (x6 x11 : Option D), es.length ≤ 3 + regs ∧ regs < es.length ∧ (∀ e ∈ es, e.1 < src + sps.length ∧ e.2 < 2) ∧
    ρ = [some (.ref a), some (.int (ins : Nat)), some (.int (regs : Nat)), some (.int (most : Nat)), some (.ref p), some (.int (src : Nat)), x6, x7, x8, x9, some (.ref q), x11, none] ∧ Dw a S S5 ∧ S5 p = some (.lst (sps.map Sp1.d)) ∧ S5 q = some (.lst (es.map endD))) (fun Rest hR => ?_) ?_
  · clear hq
    walk_at "nd"
    refine next_w (lim := 3) hd (by omega) (by omega) fun r S3 hr hd1 hk1 => ?_
    walk_at "nd"
    refine ⟨by omega, by omega, ?_⟩
    rw [rng_nat]
    have hp5 := hk1 p _ hpa hp4
    have hq5 := hk1 q _ hqa hq4
    clear hk1
    refine for_ind (fun ds ρ S' => ∃ (j m : Nat) (es : List (Nat × Nat)) (x6 x11 : Option D), ds = (List.range' j m).map nat ∧ j + m = 1 + r + regs ∧ es.length = j ∧ (∀ e ∈ es, e.1 < src + sps.length ∧ e.2 < 2) ∧
      ρ = [some (.ref a), some (.int (ins : Nat)), some (.int (regs : Nat)), some (.int (most : Nat)), some (.ref p), some (.int (src : Nat)), x6, x7, x8, x9, some (.ref q), x11, none] ∧ Dw a S S' ∧ S' p = some (.lst (sps.map Sp1.d)) ∧ S' q = some (.lst (es.map endD))) ?_ ?_ _ _ _
      ⟨0, 1 + r + regs, [], x6, none, rfl, by omega, rfl, (fun e h => nomatch h), rfl, hd1, hp5, hq5⟩
    · rintro ρ S' ⟨j, m, es, x6, x11, e1, e2, e3, e4, rfl, hd, hp', hq'⟩
      have hm : m = 0 := by
        cases m with
        | zero => rfl
        | succ m => rw [List.range'_succ] at e1; cases e1
      exact hR _ _ ⟨es, x6, x11, by omega, by omega, e4, rfl, hd, hp', hq'⟩
    · clear hd hp4 hq4 hd1 hp5 hq5
      rintro d ds ρ S' W hW ⟨j, m, es, x6, x11, e1, e2, e3, e4, rfl, hd, hp', hq'⟩
      cases m with
      | zero => cases e1
      | succ m =>
        rw [List.range'_succ, List.map_cons] at e1
        injection e1 with e1 e5
        subst e1 e5
        clear hR
        show tdSeq _ _ _ [some (.ref a), some (.int (ins : Nat)), some (.int (regs : Nat)), some (.int (most : Nat)), some (.ref p), some (.int (src : Nat)), some (nat j), x7, x8, x9, some (.ref q), x11, none] S'
        refine seq_cut (fun ρ S1 => ∃ pk : Nat, pk < src + sps.length ∧ ρ = [some (.ref a), some (.int (ins : Nat)), some (.int (regs : Nat)), some (.int (most : Nat)), some (.ref p), some (.int (src : Nat)), some (nat j), x7, x8, x9, some (.ref q), some (nat pk), none] ∧ Dw a S S1 ∧ S1 p = some (.lst (sps.map Sp1.d)) ∧ S1 q = some (.lst (es.map endD))) (fun Rest hR => ?_) ?_
        · clear hW
          walk_at "nd"
          refine next_w (lim := src + sps.length) hd (by omega) (by omega) fun t S1 hr2 hd2 hk2 => ?_
          exact hR _ _ ⟨t, hr2, rfl, hd2, hk2 p _ hpa hp', hk2 q _ hqa hq'⟩
        clear hp' hd hq'
        rintro ρ S2 ⟨pk, hpk, rfl, hd, hp', hq'⟩
        refine seq_cut (fun ρ S1 => ∃ pk : Nat, pk < src + sps.length ∧ ρ = [some (.ref a), some (.int (ins : Nat)), some (.int (regs : Nat)), some (.int (most : Nat)), some (.ref p), some (.int (src : Nat)), some (nat j), x7, x8, x9, some (.ref q), some (nat pk), none] ∧ Dw a S S1 ∧ S1 p = some (.lst (sps.map Sp1.d)) ∧ S1 q = some (.lst (es.map endD))) (fun Rest hR => ?_) ?_
        · clear hW
          walk_at "nd"
          refine next_w (lim := 3) hd (by omega) (by omega) fun t S1 hr2 hd2 hk2 => ?_
          have hp2 := hk2 p _ hpa hp'
          have hq2 := hk2 q _ hqa hq'
          walk_at "nd"
          split
          · refine next_w (lim := 3) hd2 (by omega) (by omega) fun q2 S3 hr3 hd3 hk3 => ?_
            show Rest [_, _, _, _, _, _, _, _, _, _, _, some (.int (max 0 (((src + sps.length : Nat) : Int) - 1 - (q2 : Int)))), _] S3
            have e : max 0 (((src + sps.length : Nat) : Int) - 1 - (q2 : Int)) = ((src + sps.length - 1 - q2 : Nat) : Int) := by omega
            rw [e]
            exact hR _ _ ⟨src + sps.length - 1 - q2, by omega, rfl, hd3, hk3 p _ hpa hp2, hk3 q _ hqa hq2⟩
          · exact hR _ _ ⟨pk, hpk, rfl, hd2, hp2, hq2⟩
        clear hp' hd hq' hpk
        clear pk
        rintro ρ S2 ⟨pk, hpk, rfl, hd, hp', hq'⟩
        walk_at "nd"
        refine ⟨⟨_, rfl⟩, next_w (lim := 2) hd (by omega) (by omega) fun t S1 hr2 hd2 hk2 => ?_⟩
        have hp2 := hk2 p _ hpa hp'
        have hq2 := hk2 q _ hqa hq'
        refine ⟨_, hq2, by rw [List.length_map]; exact Nat.lt_of_lt_of_le (show es.length < 1000 by omega) (sz5 (by omega)), ?_⟩
        refine hW _ _ ⟨j + 1, m, es ++ [(pk, t)], some (nat j), some (nat pk), rfl, by omega, by rw [List.length_append]; show es.length + 1 = _; omega, fun e he => ?_, rfl, hd2.put hqa hq0, ?_, by rw [sup_same, List.map_append]; rfl⟩
        · rcases List.mem_append.mp he with he | he
          · exact e4 e he
          · rw [List.mem_singleton.mp he]
            exact ⟨hpk, hr2⟩
        · rw [sup_ne hqp.symm]
          exact hp2
  clear hd hp4 hq4
  rintro ρ S5 ⟨es, y6, x11, he1, he2, he3, rfl, hd, hp5, hq5⟩
  refine seq_cut (fun ρ S6 => ∃ fs : List Bool, fs.length = regs ∧ ρ = [some (.ref a), some (.int (ins : Nat)), some (.int (regs : Nat)), some (.int (most : Nat)), some (.ref p), some (.int (src : Nat)), y6, x7, x8, x9, some (.ref q), x11, some (.lst (fs.map D.bl))] ∧ Dw a S S6 ∧ S6 p = some (.lst (sps.map Sp1.d)) ∧ S6 q = some (.lst (es.map endD))) (fun Rest hR => ?_) ?_
  · clear hq
    walk_at "nd"
    refine ⟨by omega, by omega, ?_⟩
    rw [rng_nat]
    refine lcR_ind (fun ds acc S' => ∃ (j m : Nat) (fs : List Bool), ds = (List.range' j m).map nat ∧ j + m = regs ∧ acc = fs.map D.bl ∧ fs.length = j ∧ Dw a S S' ∧ S' p = some (.lst (sps.map Sp1.d)) ∧ S' q = some (.lst (es.map endD))) ?_ ?_ _ _ _ ⟨0, regs, [], rfl, by omega, rfl, rfl, hd, hp5, hq5⟩
    · rintro acc S' ⟨j, m, fs, e1, e2, rfl, e3, hd, hp', hq'⟩
      have hm : m = 0 := by
        cases m with
        | zero => rfl
        | succ m => rw [List.range'_succ] at e1; cases e1
      exact hR _ _ ⟨fs, by omega, rfl, hd, hp', hq'⟩
    · rintro d ds acc S' W hW ⟨j, m, fs, e1, e2, rfl, e3, hd, hp', hq'⟩
      cases m with
      | zero => cases e1
      | succ m =>
        rw [List.range'_succ, List.map_cons] at e1
        injection e1 with e1 e5
        subst e1 e5
        walk_at "nd"
        refine next_w (lim := 2) hd (by omega) (by omega) fun t S1 hr2 hd2 hk2 => ?_
        refine ⟨Nat.lt_of_le_of_lt (m := 999) (by omega) (Nat.lt_of_lt_of_le (show 999 < 1000 by decide) (sz5 (by omega))), ?_⟩
        exact hW _ _ ⟨j + 1, m, fs ++ [decide ((t : Int) = 1)], rfl, by omega, by rw [List.map_append]; rfl, by rw [List.length_append]; show fs.length + 1 = _; omega, hd2, hk2 p _ hpa hp', hk2 q _ hqa hq'⟩
  clear hd hp5 hq5
  rintro ρ S6 ⟨fs, hf, rfl, hd, hp6, hq6⟩
  walk_at "nd"
  refine ⟨_, rfl, es.map endD, by unfold sdel; rw [if_neg hqp]; exact hq6, ?_⟩
  obtain ⟨o', ho', ha'⟩ := ((hd.del hpa hp).del hqa hq0).o
  subst hsrc
  exact fini (hq o' fs sps es ho' hf hok hl1 he1 he2 he3 _ (fun b u hb e => ((hd.del hpa hp).del hqa hq0).k b u hb e) ha')
end K06
namespace K06
open PySem PySem.Spec L2 DL
local macro_rules | `(tactic| walk_at "nd") => `(tactic| simp only [icO, isN0, gCatB, gEq_bb, tdLcB, tdDNew, tdNNew, tdNGet, tdNPut, tdFGet, tdiF, tdDctF, tdDc, tdDcN, tdTru, tdDAugG, tdDictZ, tdCallV, tdLc2, ln_4, ln_5, ln_6, fmod_2, fdiv_2, gAddT, tdIdx, gdUnl, tdiD, gSortI, gMin2, gMax2, gTuple, gDictP, tdLcT, lcT, setD, unsetD, tdKGet, tdKGet2, tdGet2, tdPop, tdSeq, tdAsg, tdV, gdName, tdAnd, tdOr, tdNot, tdB, tdOp, tdCB, tdCons, tdNil, tdC, tdAug, tdSl, tdP, tdRet, tdTup, tdIf, tdIfS, gOrd, gI0, gI, gLen, gIx, gAdd, gInt, vw, ixP, gSl, tdDrop, tdRetN, tdNext, gIn_sc, gIn_ts, gIn_ls, gIn_t2, gIn_l2, gIn_l4, tdApp, sl_0, sl_1, sl_2, sl_3, sl_4, sl_5, ff, tt', true_and, id,
  eqS, tdFor, tdiT, tdiL, tdiR, tdXp, gList, gEq_ns, tdJoin, gJoin, vwS, gMul, gMod, gDiv, gPow, gI, tdAugS, gdSub, gSet, ixN_2, ixN_3, atI_3, atI_4, gEq_ss, gEq_ii, tdDict, tdPairs, tdNeg, Option.isNone_none, Option.isNone_some, gIsi, tdGet, tdDPut, tdDAug, tdIsN, tdNotN, DO.dic.injEq, Option.isNone_none, Option.isNone_some, gIn_l2, gIn_t2, Option.getD_some, tdLc, gMax, tdNoP, forR, tdRaise, tdCall, tdNotV, tdAndV, tdOrV, tdBox, tdZ, gdTup, gdCons, gdNil, tdBreak, tdCont, tdYes, icast, icast1, icast2, icast3, tdLst, gIn_l4, icastL, icastE, icastZ, ln_0, ln_1, ln_2, ln_3,
  List.getElem?_cons_zero, List.getElem?_cons_succ, List.set_cons_zero, List.set_cons_succ, Option.some.injEq, exists_eq_left', exists_eq_left, D.bl.injEq, decide_eq_true_eq,
  tdFldC, tdMeth, tdMake, tdPutF, tdAugF, D.ref.injEq, DO.ins.injEq, and_assoc, DL.gSub, D.int.injEq, D.str.injEq, sup_same, eq_self, not_true_eq_false, not_false_eq_true, Bool.false_eq_true, Bool.not_eq_true, decide_not, atIn, atI_0, atI_1, atI_2, List.getElem?_map, Option.map_some, Option.map_none, decide_true, decide_false, Bool.not_true, Bool.not_false, if_true, if_false, lm_0, lm_1, lm_2, List.length_map, exists_and_left, *])
variable {P : Program} {w : World} {K : PySem.W.Frag} {mg : Str → Option Value} {base : Heap}
def inN : List Tx := [tx "i0", tx "a.10", tx "up", tx "k_3", tx "zz", tx "b", tx "c.2", tx "d", tx "m1"]
def rgN : List Tx := [tx "r0", tx "n.1", tx "q", tx "w_w"]
def ouN : List Tx := [tx "o0", tx "full", tx "z.3", tx "x", tx "y.15", tx "j"]
/-- a net -/
structure Net where
  ni : Nat
  fs : List Bool
  gs : List (Nat × Nat)
  os : List Nat
  ns : List Nat
def Net.start (n : Net) : Nat := 1 + n.ni + n.fs.length
def Net.size (n : Net) : Nat := n.start + n.gs.length
def Net.ins (n : Net) : List Tx := inN.take n.ni
def Net.d (n : Net) : D := .tup [.tup (n.ins.map D.str), .tup (List.zipWith (fun x b => .tup [.str x, .bl b]) rgN n.fs), .tup (n.gs.map DL.prD), .tup (List.zipWith (fun x l => .tup [.str x, nat l]) ouN n.os), .tup (n.ns.map nat)]
structure Net.ok (n : Net) : Prop where
  i1 : 1 ≤ n.ni
  i2 : n.ni ≤ 4
  f1 : 1 ≤ n.fs.length
  f2 : n.fs.length ≤ 4
  g1 : n.gs.length ≤ 40
  g2 : Gs n.start n.gs
  o1 : 1 ≤ n.os.length
  o2 : n.os.length ≤ 3
  o3 : ∀ l ∈ n.os, l < 2 * n.size
  n1 : n.ns.length = n.fs.length
  n2 : ∀ l ∈ n.ns, l < 2 * n.size
def lit (n t : Nat) : Nat := if n % 2 = 0 then n + t else n - t
theorem lit_lt {n t m : Nat} (h : n < 2 * m) (ht : t < 2) : lit n t < 2 * m := by unfold lit; split <;> omega
/-- a step's literal -/
theorem lit_go {S : Store} {p : Addr} {sg : List Nat} {pl t n : Nat} {Q : D → Store → Prop} {d0 d1 d2 d3 d4 d5 d6 d7 d9 d10 d11 d12 d13 d16 d17 d18 d19 d20 d21 : Option D} (hs : S p = some (.lst (sg.map nat))) (hg : sg[pl]? = some n) (ht : t < 2) (q : Q (nat (lit n t)) S) :
    tdIf (tdB (tdOp (gEq id) (tdOp gMod (tdOp gIx (tdV 8) (tdV 14)) (tdC (D.int 2))) (tdC (D.int 0)))) (tdOp gAddT (tdOp gIx (tdV 8) (tdV 14)) (tdV 15)) (tdOp DL.gSub (tdOp gIx (tdV 8) (tdV 14)) (tdV 15))
      [d0, d1, d2, d3, d4, d5, d6, d7, some (.ref p), d9, d10, d11, d12, d13, some (nat pl), some (nat t), d16, d17, d18, d19, d20, d21] S Q := by
  have hix : atI (sg.map nat) ((pl : Nat) : Int) = some (nat n) := by rw [atIn, List.getElem?_map, hg]; rfl
  walk_at "nd"
  refine ⟨by decide, ?_⟩
  unfold lit at q
  by_cases h : n % 2 = 0
  · rw [if_pos h] at q ⊢
    exact q
  · rw [if_neg h] at q ⊢
    have e : (n : Int) - (t : Int) = ((n - t : Nat) : Int) := by omega
    rw [e]
    exact q
def m_net : M := fun ds S Q E => ∃ (ins : Nat) (fs : List Bool) (sps : List Sp1) (es : List (Nat × Nat)) (other : Bool), ds = [.tup [.int (ins : Nat), .lst (fs.map D.bl), .lst (sps.map Sp1.d), .lst (es.map endD)], .bl other] ∧
  1 ≤ ins ∧ ins ≤ 4 ∧ 1 ≤ fs.length ∧ fs.length ≤ 4 ∧ SpOk (ins + fs.length) sps ∧ sps.length ≤ 10 ∧ es.length ≤ 3 + fs.length ∧ fs.length < es.length ∧ (∀ e ∈ es, e.1 < ins + fs.length + sps.length ∧ e.2 < 2) ∧
  ∀ (n : Net) S', Sub S S' → n.ok → n.ni = ins → n.fs = fs → Q n.d S'
theorem d__law_net (Z : Zf P w K mg base) : Ca P w K mg base 3 "_law_net" ["design", "other"] m_net := by
  obtain ⟨fd, F, hb⟩ := Z.F__law_net
  refine ⟨_, fd, df_of (k := 2) F sc__law_net (fun cdv A outer s H E F0 E' B => (dss_cons (ds_asg (dv 0) (dg_tup (n := 4) rfl (dgs_cons (dg_name 2 nd__law_net) (dgs_cons (dg_name 3 nd__law_net) (dgs_cons (dg_name 4 nd__law_net) (dgs_cons (dg_name 5 nd__law_net) dgs_nil))))))
    (dss_cons (ds_set 6 nd__law_net (de_op od_addT (de_op od_addT de_int (dv 2)) (de_cB oc_len rfl Z.f_len bb_len (da_cons (dv 3) da_nil))))
    (dss_cons (ds_set 7 nd__law_net (de_box da_nil))
    (dss_cons (ds_set 8 nd__law_net (de_lcB rfl nd__law_net (di_rng rfl Z.f_range (da_cons (de_op od_sub (dv 6) de_int) da_nil)) (blkOk_by (own := [("k", 9)]) (N := N__law_net) (sc := defScope st__law_net) (by decide +kernel)) (fun _ _ _ _ _ => pg_name (i := 9) nd__law_net rfl (Or.inl rfl)) (fun _ _ _ _ _ => dts_nil) (fun _ _ _ _ _ => (de_op od_mul de_int (de_op od_addT (dv 9) de_int)))))
    (dss_cons (ds_for (passes_of rfl) rfl (di_lst (dv 4)) (dg_tup (n := 3) rfl (dgs_cons (dg_name 10 nd__law_net) (dgs_cons (dg_name 11 nd__law_net) (dgs_cons (dg_name 12 nd__law_net) dgs_nil)))) (dss_cons (ds_setLcT 13 [14, 15] rfl rfl nd__law_net rfl rfl (sw_true rfl rfl rfl (by decide +kernel)) (di_lst (de_lst (da_cons (dv 11) (da_cons (dv 12) da_nil)))) (blkOk_by (own := [("place", 14), ("turn", 15)]) (N := N__law_net) (sc := defScope st__law_net) (by decide +kernel)) (fun _ _ _ _ _ => pg_tup rfl (pgs_cons (pg_name (i := 14) nd__law_net rfl (Or.inl rfl)) (pgs_cons (pg_name (i := 15) nd__law_net rfl (Or.inl rfl)) pgs_nil))) (fun _ _ _ _ _ => dts_nil) (fun _ _ _ _ _ => (de_if (dt_cmp (od_eq B.blk.units) (de_op od_mod (de_ix (dv 8) (dv 14)) de_int) de_int rfl) (de_op od_addT (de_ix (dv 8) (dv 14)) (dv 15)) (de_op od_sub (de_ix (dv 8) (dv 14)) (dv 15)))))
    (dss_one (ds_expr (de_app (dv 8) (de_ca (d__law_step Z) (B.mono (by omega)) rfl (da_cons (dv 7) (da_cons (dv 6) (da_cons (dv 10) (da_cons (de_ix (dv 13) de_int) (da_cons (de_ix (dv 13) de_int) (da_cons (dv 1) da_nil))))))))))))
    (dss_cons (ds_set 16 nd__law_net (de_lcT [14, 15] rfl rfl nd__law_net (di_lst (dv 5)) (blkOk_by (own := [("place", 14), ("turn", 15)]) (N := N__law_net) (sc := defScope st__law_net) (by decide +kernel)) (fun _ _ _ _ _ => pg_tup rfl (pgs_cons (pg_name (i := 14) nd__law_net rfl (Or.inl rfl)) (pgs_cons (pg_name (i := 15) nd__law_net rfl (Or.inl rfl)) pgs_nil))) (fun _ _ _ _ _ => dts_nil) (fun _ _ _ _ _ => (de_if (dt_cmp (od_eq B.blk.units) (dv 15) de_int rfl) (de_ix (dv 8) (dv 14)) (de_ca (d__law_turned Z) (B.blk.mono (by omega)) rfl (da_cons (de_ix (dv 8) (dv 14)) da_nil))))))
    (dss_cons (ds_asg (de_ca (d__law_trimmed Z) (B.mono (by omega)) rfl (da_cons (dv 6) (da_cons (dv 7) (da_cons (dv 16) da_nil)))) (dg_tup (n := 2) rfl (dgs_cons (dg_name 17 nd__law_net) (dgs_cons (dg_name 16 nd__law_net) dgs_nil))))
    (dss_cons (ds_set 18 nd__law_net (de_op od_sub (de_cB oc_len rfl Z.f_len bb_len (da_cons (dv 16) da_nil)) (de_cB oc_len rfl Z.f_len bb_len (da_cons (dv 3) da_nil))))
    (dss_cons (ds_set 19 nd__law_net (de_cT oc_tuple rfl Z.f_tuple bb_tuple (da_cons (de_lc rfl nd__law_net (di_rng rfl Z.f_range (da_cons (dv 2) da_nil)) (blkOk_by (own := [("k", 9)]) (N := N__law_net) (sc := defScope st__law_net) (by decide +kernel)) (fun _ _ _ _ _ => pg_name (i := 9) nd__law_net rfl (Or.inl rfl)) (fun _ _ _ _ _ => dts_nil) (fun _ _ _ _ _ => (de_ix (de_lst (da_cons de_str (da_cons de_str (da_cons de_str (da_cons de_str (da_cons de_str (da_cons de_str (da_cons de_str (da_cons de_str (da_cons de_str da_nil)))))))))) (dv 9)))) da_nil)))
    (dss_cons (ds_set 20 nd__law_net (de_cT oc_tuple rfl Z.f_tuple bb_tuple (da_cons (de_lc rfl nd__law_net (di_rng rfl Z.f_range (da_cons (de_cB oc_len rfl Z.f_len bb_len (da_cons (dv 3) da_nil)) da_nil)) (blkOk_by (own := [("k", 9)]) (N := N__law_net) (sc := defScope st__law_net) (by decide +kernel)) (fun _ _ _ _ _ => pg_name (i := 9) nd__law_net rfl (Or.inl rfl)) (fun _ _ _ _ _ => dts_nil) (fun _ _ _ _ _ => (de_tup (da_cons (de_ix (de_lst (da_cons de_str (da_cons de_str (da_cons de_str (da_cons de_str da_nil))))) (dv 9)) (da_cons (de_ix (dv 3) (dv 9)) da_nil))))) da_nil)))
    (dss_cons (ds_set 21 nd__law_net (de_lst (da_cons de_str (da_cons de_str (da_cons de_str (da_cons de_str (da_cons de_str (da_cons de_str da_nil))))))))
    (dss_one (ds_ret (de_tup (da_cons (dv 19) (da_cons (dv 20) (da_cons (dv 17) (da_cons (de_cT oc_tuple rfl Z.f_tuple bb_tuple (da_cons (de_lc rfl nd__law_net (di_rng rfl Z.f_range (da_cons (dv 18) da_nil)) (blkOk_by (own := [("k", 9)]) (N := N__law_net) (sc := defScope st__law_net) (by decide +kernel)) (fun _ _ _ _ _ => pg_name (i := 9) nd__law_net rfl (Or.inl rfl)) (fun _ _ _ _ _ => dts_nil) (fun _ _ _ _ _ => (de_tup (da_cons (de_ix (dv 21) (dv 9)) (da_cons (de_ix (dv 16) (dv 9)) da_nil))))) da_nil)) (da_cons (de_cT oc_tuple rfl Z.f_tuple bb_tuple (da_cons (de_sl (dv 16) (do_some (dv 18)) do_none) da_nil)) da_nil)))))))))))))))))))) ?_, Z.g__law_net, F.kp, hb⟩
  rintro ds S Q E hl ⟨ins, fs, sps, es, other, rfl, h1, h2, h3, h4, h5, h6, h7, h8, h9, hq⟩
  rw [show startD N__law_net [.tup [.int (ins : Nat), .lst (fs.map D.bl), .lst (sps.map Sp1.d), .lst (es.map endD)], .bl other] = [some (.tup [.int (ins : Nat), .lst (fs.map D.bl), .lst (sps.map Sp1.d), .lst (es.map endD)]), some (.bl other), none, none, none, none, none, none, none, none, none, none, none, none, none, none, none, none, none, none, none, none] from rfl]
  clear hl
  refine seq_cut (fun ρ S1 => ρ = [some (.tup [.int (ins : Nat), .lst (fs.map D.bl), .lst (sps.map Sp1.d), .lst (es.map endD)]), some (.bl other), some (nat ins), some (.lst (fs.map D.bl)), some (.lst (sps.map Sp1.d)), some (.lst (es.map endD)), none, none, none, none, none, none, none, none, none, none, none, none, none, none, none, none] ∧ S1 = S) (fun Rest hR => ?_) ?_
  · walk_at "nd"
    exact ⟨_, rfl, rfl, _, _, rfl, _, _, rfl, _, _, rfl, _, _, rfl, rfl, hR _ _ ⟨rfl, rfl⟩⟩
  rintro ρ S1 ⟨rfl, rfl⟩
  generalize hD0 : (some (D.tup [D.int (ins : Nat), D.lst (fs.map D.bl), D.lst (sps.map Sp1.d), D.lst (es.map endD)])) = d0
  generalize hst : 1 + ins + fs.length = start
  refine seq_cut (fun ρ S2 => ρ = [d0, some (.bl other), some (nat ins), some (.lst (fs.map D.bl)), some (.lst (sps.map Sp1.d)), some (.lst (es.map endD)), some (nat start), none, none, none, none, none, none, none, none, none, none, none, none, none, none, none] ∧ S2 = S1) (fun Rest hR => ?_) ?_
  · walk_at "nd"
    try exact hR _ _ ⟨rfl, rfl⟩
  rintro ρ S2 ⟨rfl, rfl⟩
  refine seq_cut (fun ρ S3 => ∃ g, S2 g = none ∧ ρ = [d0, some (.bl other), some (nat ins), some (.lst (fs.map D.bl)), some (.lst (sps.map Sp1.d)), some (.lst (es.map endD)), some (nat start), some (.ref g), none, none, none, none, none, none, none, none, none, none, none, none, none, none] ∧ S3 = sup S2 g (gaO [])) (fun Rest hR => ?_) ?_
  · clear hq
    walk_at "nd"
    exact fun g hg => hR _ _ ⟨g, hg, rfl, rfl⟩
  rintro ρ S3 ⟨g, hg0, rfl, rfl⟩
  refine seq_cut (fun ρ S4 => ∃ p, p ≠ g ∧ S2 p = none ∧ ρ = [d0, some (.bl other), some (nat ins), some (.lst (fs.map D.bl)), some (.lst (sps.map Sp1.d)), some (.lst (es.map endD)), some (nat start), some (.ref g), some (.ref p), none, none, none, none, none, none, none, none, none, none, none, none, none] ∧
    S4 = sup (sup S2 g (gaO [])) p (.lst (((List.range' 0 (start - 1)).map fun k => 2 * (k + 1)).map nat))) (fun Rest hR => ?_) ?_
  · clear hq
    walk_at "nd"
    have e0 : ((start : Nat) : Int) - 1 = ((start - 1 : Nat) : Int) := by omega
    rw [e0]
    refine ⟨by omega, by omega, ?_⟩
    rw [rng_nat]
    refine lcR_n (fun k => nat (2 * (k + 1))) (List.range' 0 (start - 1)) [] _ (fun k hk Q' q => ?_) (by rw [List.length_range']; show 0 + (start - 1) ≤ _; omega) ?_
    · have := List.mem_range'_1.mp hk
      walk_at "nd"
      refine ⟨by first | exact .inl (by decide) | exact .inr (by decide), ?_⟩
      exact q
    · rw [List.nil_append]
      refine fun p hp => hR _ _ ⟨p, (fun z => by rw [z, sup_same] at hp; cases hp), ?_, rfl, ?_⟩
      · rw [sup_ne (fun z => by rw [z, sup_same] at hp; cases hp)] at hp
        exact hp
      · rw [List.map_map]
        rfl
  rintro ρ S4 ⟨p, hpg, hp0, rfl, rfl⟩
  refine seq_cut (fun ρ S5 => ∃ (ps : List (Nat × Nat)) (sg : List Nat) (x10 x11 x12 x13 : Option D), Gs start ps ∧ ps.length ≤ 3 * sps.length ∧ sg.length = start - 1 + sps.length ∧ (∀ l ∈ sg, l < 2 * (start + ps.length)) ∧
    ρ = [d0, some (.bl other), some (nat ins), some (.lst (fs.map D.bl)), some (.lst (sps.map Sp1.d)), some (.lst (es.map endD)), some (nat start), some (.ref g), some (.ref p), none, x10, x11, x12, x13, none, none, none, none, none, none, none, none] ∧
    S5 = sup (sup S2 g (gaO ps)) p (.lst (sg.map nat))) (fun Rest hR => ?_) ?_
  · clear hq
    walk_at "nd"
    refine for_ind (fun ds ρ S' => ∃ (j : Nat) (rs : List Sp1) (ps : List (Nat × Nat)) (sg : List Nat) (x10 x11 x12 x13 : Option D), ds = rs.map Sp1.d ∧ rs = sps.drop j ∧ j ≤ sps.length ∧ Gs start ps ∧ ps.length ≤ 3 * j ∧ sg.length = start - 1 + j ∧ (∀ l ∈ sg, l < 2 * (start + ps.length)) ∧
      ρ = [d0, some (.bl other), some (nat ins), some (.lst (fs.map D.bl)), some (.lst (sps.map Sp1.d)), some (.lst (es.map endD)), some (nat start), some (.ref g), some (.ref p), none, x10, x11, x12, x13, none, none, none, none, none, none, none, none] ∧
      S' = sup (sup S2 g (gaO ps)) p (.lst (sg.map nat))) ?_ ?_ _ _ _ ⟨0, sps, [], _, none, none, none, none, rfl, rfl, Nat.zero_le _, (fun k p h => by simp at h), Nat.zero_le _, by rw [List.length_map, List.length_range']; omega, (fun l hl => ?_), rfl, rfl⟩
    · rintro ρ S' ⟨j, rs, ps, sg, x10, x11, x12, x13, e1, e2, e3, e4, e5, e6, e7, rfl, rfl⟩
      have hj : sps.drop j = [] := by
        rw [← e2]
        cases rs with
        | nil => rfl
        | cons _ _ => cases e1
      have hj2 : j = sps.length := by
        have := List.drop_eq_nil_iff.mp hj
        omega
      subst hj2
      exact hR _ _ ⟨ps, sg, x10, x11, x12, x13, e4, e5, e6, e7, rfl, rfl⟩
    · rintro d ds ρ S' W hW ⟨j, rs, ps, sg, x10, x11, x12, x13, e1, e2, e3, e4, e5, e6, e7, rfl, rfl⟩
      cases rs with
      | nil => cases e1
      | cons s rs =>
        rw [List.map_cons] at e1
        injection e1 with e1 e8
        subst e1 e8
        clear hR
        have hjl : j < sps.length := by
          rcases Nat.lt_or_ge j sps.length with z | z
          · exact z
          · rw [List.drop_eq_nil_of_le z] at e2; cases e2
        have hgj : sps[j]? = some s := by
          have e9 := congrArg List.head? e2
          rw [List.head?_drop] at e9
          exact e9.symm
        have hrs : rs = sps.drop (j + 1) := by
          have e9 := congrArg List.tail e2
          rw [List.tail_drop] at e9
          exact e9
        obtain ⟨hw, ha, hb2, ht, hu⟩ := h5 j s hgj
        refine ⟨_, rfl, rfl, _, _, rfl, _, _, rfl, _, _, rfl, rfl, ?_⟩
        show tdSeq _ _ _ [d0, some (.bl other), some (nat ins), some (.lst (fs.map D.bl)), some (.lst (sps.map Sp1.d)), some (.lst (es.map endD)), some (nat start), some (.ref g), some (.ref p), none, some (.str s.w), some (.tup [nat s.a, nat s.t]), some (.tup [nat s.b, nat s.u]), x13, none, none, none, none, none, none, none, none] _
        have hga : ∃ na, sg[s.a]? = some na ∧ na < 2 * (start + ps.length) := by
          have : s.a < sg.length := by omega
          exact ⟨_, List.getElem?_eq_getElem this, e7 _ (List.getElem_mem this)⟩
        have hgb : ∃ nb, sg[s.b]? = some nb ∧ nb < 2 * (start + ps.length) := by
          have : s.b < sg.length := by omega
          exact ⟨_, List.getElem?_eq_getElem this, e7 _ (List.getElem_mem this)⟩
        obtain ⟨na, ga1, ga2⟩ := hga
        obtain ⟨nb, gb1, gb2⟩ := hgb
        have hgate : sup (sup S2 g (gaO ps)) p (.lst (sg.map nat)) g = some (gaO ps) := by rw [sup_ne hpg.symm, sup_same]
        refine seq_cut (fun ρ S6 => ρ = [d0, some (.bl other), some (nat ins), some (.lst (fs.map D.bl)), some (.lst (sps.map Sp1.d)), some (.lst (es.map endD)), some (nat start), some (.ref g), some (.ref p), none, some (.str s.w), some (.tup [nat s.a, nat s.t]), some (.tup [nat s.b, nat s.u]), some (.lst [nat (lit na s.t), nat (lit nb s.u)]), none, none, none, none, none, none, none, none] ∧ S6 = sup (sup S2 g (gaO ps)) p (.lst (sg.map nat))) (fun Rest2 hR2 => ?_) ?_
        · clear hW
          refine ⟨_, rfl, _, rfl, sz5 (show 2 ≤ 1000000 by decide), ?_⟩
          show lcT [14, 15] tdYes _ _ ([(s.a, s.t, na), (s.b, s.u, nb)].map fun q : Nat × Nat × Nat => D.tup [nat q.1, nat q.2.1]) [] _ _
          refine lcT_m (vs := [14, 15]) (fun q : Nat × Nat × Nat => nat (lit q.2.2 q.2.1)) (fun q => [nat q.1, nat q.2.1]) (fun _ => rfl) [(s.a, s.t, na), (s.b, s.u, nb)] [] _ (fun q hq Q' qq => ?_) (show 0 + 2 ≤ 100000 by decide) ?_
          · simp only [List.mem_cons, List.not_mem_nil, or_false] at hq
            rcases hq with rfl | rfl
            · exact lit_go sup_same ga1 ht qq
            · exact lit_go sup_same gb1 hu qq
          exact hR2 _ _ ⟨rfl, rfl⟩
        rintro ρ S6 ⟨rfl, rfl⟩
        walk_at "nd"
        refine ⟨⟨_, rfl⟩, g, start, lit na s.t, lit nb s.u, s.w, other, ps, rfl, ⟨hgate, e4, by omega⟩, by omega, lit_lt ga2 ht, lit_lt gb2 hu, fun r ps' f1 f2 f3 f4 => ?_⟩
        rw [sup_swap hpg]
        refine ⟨_, sup_same, by rw [List.length_map]; exact Nat.lt_of_lt_of_le (show sg.length < 1000 by omega) (sz5 (by omega)), ?_⟩
        refine hW _ _ ⟨j + 1, rs, ps', sg ++ [r], some (.str s.w), _, _, _, rfl, hrs, by omega, f1, by omega, by rw [List.length_append]; show sg.length + 1 = _; omega, fun l hl => ?_, rfl, by rw [sup_sup, List.map_append]; rfl⟩
        rcases List.mem_append.mp hl with hl | hl
        · have := e7 l hl
          omega
        · rw [List.mem_singleton.mp hl]
          exact f4
    · obtain ⟨k, hk, rfl⟩ := List.mem_map.mp hl
      have := List.mem_range'_1.mp hk
      show _ < 2 * (start + 0)
      omega
  rintro ρ S5 ⟨ps, sg, x10, x11, x12, x13, e4, e5, e6, e7, rfl, rfl⟩
  have hgate : sup (sup S2 g (gaO ps)) p (.lst (sg.map nat)) g = some (gaO ps) := by rw [sup_ne hpg.symm, sup_same]
  have hsig : sup (sup S2 g (gaO ps)) p (.lst (sg.map nat)) p = some (.lst (sg.map nat)) := sup_same
  have hsub : Sub S2 (sup (sup S2 g (gaO ps)) p (.lst (sg.map nat))) := Sub.sup2 (Sub.sup hg0) hp0
  generalize sup (sup S2 g (gaO ps)) p (.lst (sg.map nat)) = S6 at hgate hsig hsub ⊢
  refine seq_cut (fun ρ S7 => ∃ tl : List Nat, tl.length = es.length ∧ (∀ l ∈ tl, l < 2 * (start + ps.length)) ∧ ρ = [d0, some (.bl other), some (nat ins), some (.lst (fs.map D.bl)), some (.lst (sps.map Sp1.d)), some (.lst (es.map endD)), some (nat start), some (.ref g), some (.ref p), none, x10, x11, x12, x13, none, none, some (.lst (tl.map nat)), none, none, none, none, none] ∧ S7 = S6) (fun Rest hR => ?_) ?_
  · clear hq
    walk_at "nd"
    have hv : ∀ e ∈ es, ∃ n, sg[e.1]? = some n ∧ n < 2 * (start + ps.length) := fun e he => by
      have h := (h9 e he).1
      have : e.1 < sg.length := by omega
      exact ⟨_, List.getElem?_eq_getElem this, e7 _ (List.getElem_mem this)⟩
    refine lcT_m (vs := [14, 15]) (fun e : Nat × Nat => nat (if e.2 = 0 then sg.getD e.1 0 else turn (sg.getD e.1 0))) (fun e => [nat e.1, nat e.2]) (fun _ => rfl) es [] _ (fun e he Q' qq => ?_) (show 0 + es.length ≤ 100000 by omega) ?_
    · obtain ⟨n, g1, g2⟩ := hv e he
      have hgd : sg.getD e.1 0 = n := by rw [List.getD_eq_getElem?_getD, g1]; rfl
      rw [hgd] at qq
      have hix : atI (sg.map nat) ((e.1 : Nat) : Int) = some (nat n) := by rw [atIn, List.getElem?_map, g1]; rfl
      clear hR
      walk_at "nd"
      by_cases h : e.2 = 0
      · rw [if_pos h] at qq ⊢
        exact qq
      · rw [if_neg h] at qq ⊢
        exact ⟨n, rfl, by omega, qq⟩
    · refine hR _ _ ⟨es.map fun e => if e.2 = 0 then sg.getD e.1 0 else turn (sg.getD e.1 0), List.length_map _, fun l hl => ?_, by rw [List.nil_append, List.map_map]; rfl, rfl⟩
      obtain ⟨e, he, rfl⟩ := List.mem_map.mp hl
      obtain ⟨n, g1, g2⟩ := hv e he
      have hgd : sg.getD e.1 0 = n := by rw [List.getD_eq_getElem?_getD, g1]; rfl
      rw [hgd]
      split
      · exact g2
      · exact turn_lt g2
  rintro ρ S7 ⟨tl, t1, t2, rfl, rfl⟩
  refine seq_cut (fun ρ S8 => ∃ (kept : List (Nat × Nat)) (told : List Nat), Gs start kept ∧ kept.length ≤ ps.length ∧ told.length = es.length ∧ (∀ l ∈ told, l < 2 * (start + kept.length)) ∧
    ρ = [d0, some (.bl other), some (nat ins), some (.lst (fs.map D.bl)), some (.lst (sps.map Sp1.d)), some (.lst (es.map endD)), some (nat start), some (.ref g), some (.ref p), none, x10, x11, x12, x13, none, none, some (.lst (told.map nat)), some (.tup (kept.map DL.prD)), none, none, none, none] ∧ Sub S2 S8) (fun Rest hR => ?_) ?_
  · clear hq
    walk_at "nd"
    refine ⟨g, start, ps, tl, rfl, ⟨hgate, e4, by omega⟩, by omega, by omega, t2, fun kept told S' k0 k1 k2 k3 k4 => ?_⟩
    exact ⟨_, rfl, rfl, _, _, rfl, _, _, rfl, rfl, hR _ _ ⟨kept, told, k1, k2, by omega, k4, rfl, hsub.trans k0⟩⟩
  clear hgate hsig hsub
  rintro ρ S8 ⟨kept, told, k1, k2, k3, k4, rfl, hsub⟩
  have hn3 : ((told.length : Nat) : Int) - ((fs.length : Nat) : Int) = ((told.length - fs.length : Nat) : Int) := by omega
  have q1 : fs.length < told.length := by omega
  have q2 : told.length ≤ 3 + fs.length := by omega
  have q3 : kept.length ≤ 40 := by omega
  clear k3 t1 e6
  refine seq_cut (fun ρ S9 => ρ = [d0, some (.bl other), some (nat ins), some (.lst (fs.map D.bl)), some (.lst (sps.map Sp1.d)), some (.lst (es.map endD)), some (nat start), some (.ref g), some (.ref p), none, x10, x11, x12, x13, none, none, some (.lst (told.map nat)), some (.tup (kept.map DL.prD)), some (nat (told.length - fs.length)), none, none, none] ∧ S9 = S8) (fun Rest hR => ?_) ?_
  · clear hq
    walk_at "nd"
    try exact hR _ _ ⟨rfl, rfl⟩
  rintro ρ S9 ⟨rfl, rfl⟩
  refine seq_cut (fun ρ S10 => ρ = [d0, some (.bl other), some (nat ins), some (.lst (fs.map D.bl)), some (.lst (sps.map Sp1.d)), some (.lst (es.map endD)), some (nat start), some (.ref g), some (.ref p), none, x10, x11, x12, x13, none, none, some (.lst (told.map nat)), some (.tup (kept.map DL.prD)), some (nat (told.length - fs.length)), some (.tup ((inN.take ins).map D.str)), none, none] ∧ S10 = S9) (fun Rest hR => ?_) ?_
  · clear hq
    walk_at "nd"
    refine ⟨by omega, by omega, ?_⟩
    rw [rng_nat]
    refine lcR_n (fun k => .str (inN.getD k [])) (List.range' 0 ins) [] _ (fun k hk Q' q => ?_) (by rw [List.length_range']; show 0 + ins ≤ _; omega) ?_
    · have hk2 := List.mem_range'_1.mp hk
      clear hR
      walk_at "nd"
      refine ⟨sz5 (show 9 ≤ 1000000 by decide), ?_⟩
      obtain rfl | rfl | rfl | rfl : k = 0 ∨ k = 1 ∨ k = 2 ∨ k = 3 := by omega
      · exact ⟨_, rfl, q⟩
      · exact ⟨_, rfl, q⟩
      · exact ⟨_, rfl, q⟩
      · exact ⟨_, rfl, q⟩
    · show Rest _ _
      refine hR _ _ ⟨?_, rfl⟩
      have e : [] ++ (List.range' 0 ins).map (fun k => D.str (inN.getD k [])) = (inN.take ins).map D.str := by
        obtain rfl | rfl | rfl | rfl : ins = 1 ∨ ins = 2 ∨ ins = 3 ∨ ins = 4 := by omega
        · rfl
        · rfl
        · rfl
        · rfl
      rw [← e]
  rintro ρ S10 ⟨rfl, rfl⟩
  refine seq_cut (fun ρ S11 => ρ = [d0, some (.bl other), some (nat ins), some (.lst (fs.map D.bl)), some (.lst (sps.map Sp1.d)), some (.lst (es.map endD)), some (nat start), some (.ref g), some (.ref p), none, x10, x11, x12, x13, none, none, some (.lst (told.map nat)), some (.tup (kept.map DL.prD)), some (nat (told.length - fs.length)), some (.tup ((inN.take ins).map D.str)), some (.tup (List.zipWith (fun x b => .tup [.str x, .bl b]) rgN fs)), none] ∧ S11 = S10) (fun Rest hR => ?_) ?_
  · clear hq
    walk_at "nd"
    refine ⟨by omega, by omega, ?_⟩
    rw [rng_nat]
    refine lcR_n (fun k => .tup [.str (rgN.getD k []), .bl (fs.getD k false)]) (List.range' 0 fs.length) [] _ (fun k hk Q' q => ?_) (by rw [List.length_range']; show 0 + fs.length ≤ _; omega) ?_
    · have hk2 := List.mem_range'_1.mp hk
      clear hR
      have hix : atI (fs.map D.bl) ((k : Nat) : Int) = some (.bl (fs.getD k false)) := by
        rw [atIn, List.getElem?_map, List.getD_eq_getElem?_getD, List.getElem?_eq_getElem (show k < fs.length by omega)]
        rfl
      walk_at "nd"
      obtain rfl | rfl | rfl | rfl : k = 0 ∨ k = 1 ∨ k = 2 ∨ k = 3 := by omega
      · exact ⟨_, rfl, q⟩
      · exact ⟨_, rfl, q⟩
      · exact ⟨_, rfl, q⟩
      · exact ⟨_, rfl, q⟩
    · show Rest _ _
      refine hR _ _ ⟨?_, rfl⟩
      have e : [] ++ (List.range' 0 fs.length).map (fun k => D.tup [.str (rgN.getD k []), .bl (fs.getD k false)]) = List.zipWith (fun x b => D.tup [.str x, .bl b]) rgN fs := by
        clear hR hn3 hst h5 h6 h7 h8 h9 hD0
        match fs, h3, h4 with
        | [a], _, _ => rfl
        | [a, b], _, _ => rfl
        | [a, b, c], _, _ => rfl
        | [a, b, c, d], _, _ => rfl
      rw [← e]
  rintro ρ S11 ⟨rfl, rfl⟩
  refine seq_cut (fun ρ S12 => ρ = [d0, some (.bl other), some (nat ins), some (.lst (fs.map D.bl)), some (.lst (sps.map Sp1.d)), some (.lst (es.map endD)), some (nat start), some (.ref g), some (.ref p), none, x10, x11, x12, x13, none, none, some (.lst (told.map nat)), some (.tup (kept.map DL.prD)), some (nat (told.length - fs.length)), some (.tup ((inN.take ins).map D.str)), some (.tup (List.zipWith (fun x b => .tup [.str x, .bl b]) rgN fs)), some (.lst (ouN.map D.str))] ∧ S12 = S11) (fun Rest hR => ?_) ?_
  · clear hq
    walk_at "nd"
    exact ⟨sz5 (show 6 ≤ 1000000 by decide), hR _ _ ⟨rfl, rfl⟩⟩
  rintro ρ S12 ⟨rfl, rfl⟩
  generalize hcn : told.length - fs.length = cn
  have hcn1 : 1 ≤ cn := by omega
  have hcn2 : cn ≤ 3 := by omega
  have htk : cn ≤ told.length := by omega
  have hdl : (told.drop cn).length = fs.length := by rw [List.length_drop]; omega
  have hn := hq ⟨ins, fs, kept, told.take cn, told.drop cn⟩ S12 hsub ⟨h1, h2, h3, h4, q3, by show Gs (1 + ins + fs.length) kept; rw [hst]; exact k1, by show 1 ≤ (told.take cn).length; rw [List.length_take]; omega, by show (told.take cn).length ≤ 3; rw [List.length_take]; omega,
    fun l hl => by show l < 2 * (1 + ins + fs.length + kept.length); rw [hst]; exact k4 l (List.mem_of_mem_take hl), hdl, fun l hl => by show l < 2 * (1 + ins + fs.length + kept.length); rw [hst]; exact k4 l (List.mem_of_mem_drop hl)⟩ rfl rfl
  clear hq hn3 q1
  walk_at "nd"
  refine ⟨by omega, by omega, ?_⟩
  rw [rng_nat]
  refine lcR_n (fun k => .tup [.str (ouN.getD k []), nat (told.getD k 0)]) (List.range' 0 cn) [] _ (fun k hk Q' q => ?_) (by rw [List.length_range']; show 0 + cn ≤ _; omega) ?_
  · have hk2 := List.mem_range'_1.mp hk
    have hix : atI (told.map nat) ((k : Nat) : Int) = some (nat (told.getD k 0)) := by
      rw [atIn, List.getElem?_map, List.getD_eq_getElem?_getD, List.getElem?_eq_getElem (show k < told.length by omega)]
      rfl
    clear hn
    walk_at "nd"
    obtain rfl | rfl | rfl : k = 0 ∨ k = 1 ∨ k = 2 := by omega
    · exact ⟨_, rfl, q⟩
    · exact ⟨_, rfl, q⟩
    · exact ⟨_, rfl, q⟩
  · have ec : cutL (told.map nat) (some ((cn : Nat) : Int)) none = (told.drop cn).map nat := by rw [cutL_n, List.map_drop]
    have eo : [] ++ (List.range' 0 cn).map (fun k => D.tup [D.str (ouN.getD k []), nat (told.getD k 0)]) = List.zipWith (fun x l => D.tup [.str x, nat l]) ouN (told.take cn) := by
      clear hn hcn hdl hsub k4 q2
      obtain rfl | rfl | rfl : cn = 1 ∨ cn = 2 ∨ cn = 3 := by omega
      · match told, htk with
        | a :: r, _ => rfl
      · match told, htk with
        | a :: b :: r, _ => rfl
      · match told, htk with
        | a :: b :: c :: r, _ => rfl
    rw [ec, eo]
    exact fini hn
end K06
namespace K06
open PySem PySem.Spec L2 DL
local macro_rules | `(tactic| walk_at "nd") => `(tactic| simp only [icO, isN0, gCatB, gEq_bb, tdLcB, tdDNew, tdNNew, tdNGet, tdNPut, tdFGet, tdiF, tdDctF, tdDc, tdDcN, tdTru, tdDAugG, tdDictZ, tdCallV, tdLc2, ln_4, ln_5, ln_6, fmod_2, fdiv_2, gAddT, tdIdx, gdUnl, tdiD, gSortI, gMin2, gMax2, gTuple, gDictP, tdLcT, lcT, setD, unsetD, tdKGet, tdKGet2, tdGet2, tdPop, tdSeq, tdAsg, tdV, gdName, tdAnd, tdOr, tdNot, tdB, tdOp, tdCB, tdCons, tdNil, tdC, tdAug, tdSl, tdP, tdRet, tdTup, tdIf, tdIfS, gOrd, gI0, gI, gLen, gIx, gAdd, gInt, vw, ixP, gSl, tdDrop, tdRetN, tdNext, gIn_sc, gIn_ts, gIn_ls, gIn_t2, gIn_l2, gIn_l4, tdApp, sl_0, sl_1, sl_2, sl_3, sl_4, sl_5, ff, tt', true_and, id,
  eqS, tdFor, tdiT, tdiL, tdiR, tdXp, gList, gEq_ns, tdJoin, gJoin, vwS, gMul, gMod, gDiv, gPow, gI, tdAugS, gdSub, gSet, ixN_2, ixN_3, atI_3, atI_4, gEq_ss, gEq_ii, tdDict, tdPairs, tdNeg, Option.isNone_none, Option.isNone_some, gIsi, tdGet, tdDPut, tdDAug, tdIsN, tdNotN, DO.dic.injEq, Option.isNone_none, Option.isNone_some, gIn_l2, gIn_t2, Option.getD_some, tdLc, gMax, tdNoP, forR, tdRaise, tdCall, tdNotV, tdAndV, tdOrV, tdBox, tdZ, gdTup, gdCons, gdNil, tdBreak, tdCont, tdYes, icast, icast1, icast2, icast3, tdLst, gIn_l4, icastL, icastE, icastZ, ln_0, ln_1, ln_2, ln_3,
  List.getElem?_cons_zero, List.getElem?_cons_succ, List.set_cons_zero, List.set_cons_succ, Option.some.injEq, exists_eq_left', exists_eq_left, D.bl.injEq, decide_eq_true_eq,
  tdFldC, tdMeth, tdMake, tdPutF, tdAugF, D.ref.injEq, DO.ins.injEq, and_assoc, DL.gSub, D.int.injEq, D.str.injEq, sup_same, eq_self, not_true_eq_false, not_false_eq_true, Bool.false_eq_true, Bool.not_eq_true, decide_not, atIn, atI_0, atI_1, atI_2, List.getElem?_map, Option.map_some, Option.map_none, decide_true, decide_false, Bool.not_true, Bool.not_false, if_true, if_false, lm_0, lm_1, lm_2, List.length_map, exists_and_left, *])
variable {P : Program} {w : World} {K : PySem.W.Frag} {mg : Str → Option Value} {base : Heap}
/-- a literal's value -/
def lv (f : List Bool) (l : Nat) : Bool := f.getD (l / 2) false != (l % 2 == 1)
def gvals : List Bool → List (Nat × Nat) → List Bool
  | f, [] => f
  | f, p :: gs => gvals (f ++ [lv f p.1 && lv f p.2]) gs
def Net.vals (n : Net) (row : List Bool) : List Bool := gvals (false :: row) n.gs
def Net.out (n : Net) (st inp : List Bool) : List Bool := n.os.map (lv (n.vals (inp ++ st)))
def Net.nxt (n : Net) (st inp : List Bool) : List Bool := n.ns.map (lv (n.vals (inp ++ st)))
abbrev bD (f : List Bool) : List D := f.map D.bl
theorem gvals_len : ∀ (gs : List (Nat × Nat)) (f : List Bool), (gvals f gs).length = f.length + gs.length
  | [], f => rfl
  | p :: gs, f => by
    unfold gvals
    rw [gvals_len gs, List.length_append, List.length_cons, List.length_cons]
    show f.length + (0 + 1) + gs.length = _
    omega
theorem vals_len (n : Net) (row : List Bool) : (n.vals row).length = 1 + row.length + n.gs.length := by
  unfold Net.vals
  rw [gvals_len, List.length_cons]
  omega
theorem lv_at {f : List Bool} {l : Nat} (h : l / 2 < f.length) : atI (bD f) ((l / 2 : Nat) : Int) = some (.bl (f.getD (l / 2) false)) := by
  rw [atIn, List.getElem?_map, List.getD_eq_getElem?_getD, List.getElem?_eq_getElem h]
  rfl
theorem lv_odd (l : Nat) : decide (l % 2 = 1) = (l % 2 == 1) := rfl
theorem lv_ne (f : List Bool) (l : Nat) : (!decide (f.getD (l / 2) false = (l % 2 == 1))) = lv f l := by
  unfold lv
  cases f.getD (l / 2) false <;> cases (l % 2 == 1) <;> rfl
def m_literal_value : M := fun ds S Q E => ∃ (x : D) (f : List Bool) (l : Nat), ds = [x, nat l] ∧ vw S x = .lst (bD f) ∧ l / 2 < f.length ∧ Q (.bl (lv f l)) S
theorem d_literal_value (Z : Zf P w K mg base) : Ca P w K mg base 1 "literal_value" ["found", "literal"] m_literal_value := by
  obtain ⟨fd, F, hb⟩ := Z.F_literal_value
  refine ⟨_, fd, df_of (k := 0) F sc_literal_value (fun cdv A outer s H E F0 E' B => (dss_one (ds_ret (de_cmp (od_ne B.units) (de_ix (dv 0) (de_op od_div (dv 1) de_int)) (de_cmp (od_eq B.units) (de_op od_mod (dv 1) de_int) de_int rfl) rfl)))) ?_, Z.g_literal_value, F.kp, hb⟩
  rintro ds S Q E hl ⟨x, f, l, rfl, hx, h1, hq⟩
  rw [show startD N_literal_value [x, nat l] = [some x, some (nat l)] from rfl]
  clear hl
  have hix := lv_at h1
  have hq2 := fini hq
  rw [← lv_ne, ← ic1] at hq2
  clear hq
  rcases vw_case S x with q | ⟨a, es, rfl, q1, q2⟩
  · rw [hx] at q
    subst q
    clear hx
    walk_at "nd"
    exact ⟨⟨by decide, by decide⟩, by first | exact ⟨by decide, hq2⟩ | exact ⟨by decide, trivial⟩⟩
  · rw [hx] at q2
    cases q2
    clear hx
    walk_at "nd"
    exact ⟨⟨by decide, by decide⟩, by first | exact ⟨by decide, hq2⟩ | exact ⟨by decide, trivial⟩⟩
theorem gvals_snoc : ∀ (gs : List (Nat × Nat)) (f : List Bool) (p : Nat × Nat), gvals f (gs ++ [p]) = gvals f gs ++ [lv (gvals f gs) p.1 && lv (gvals f gs) p.2]
  | [], f, p => rfl
  | q :: gs, f, p => gvals_snoc gs _ p
/-- the values of the first j nodes -/
def Net.part (n : Net) (row : List Bool) (j : Nat) : List Bool := gvals (false :: row) (n.gs.take (j - (row.length + 1)))
theorem part_len (n : Net) (row : List Bool) {j : Nat} (h : j ≤ row.length + 1 + n.gs.length) : (n.part row j).length = max j (row.length + 1) := by
  unfold Net.part
  rw [gvals_len, List.length_take, List.length_cons]
  omega
theorem part_all (n : Net) (row : List Bool) : n.part row (1 + row.length + n.gs.length) = n.vals row := by
  unfold Net.part Net.vals
  rw [show 1 + row.length + n.gs.length - (row.length + 1) = n.gs.length by omega, List.take_length]
theorem part_low (n : Net) (row : List Bool) {j : Nat} (h : j < row.length + 1) : n.part row (j + 1) = n.part row j := by
  unfold Net.part
  rw [show j + 1 - (row.length + 1) = 0 by omega, show j - (row.length + 1) = 0 by omega]
theorem part_up (n : Net) (row : List Bool) {j : Nat} {p : Nat × Nat} (h : row.length + 1 ≤ j) (hp : n.gs[j - (row.length + 1)]? = some p) : n.part row (j + 1) = n.part row j ++ [lv (n.part row j) p.1 && lv (n.part row j) p.2] := by
  unfold Net.part
  rw [show j + 1 - (row.length + 1) = (j - (row.length + 1)) + 1 by omega, List.take_add_one, hp]
  exact gvals_snoc _ _ _
theorem lit_val {S : Store} {p : Addr} {f : List Bool} {l : Nat} {Q : D → Store → Prop} {i : Nat} {ρ : Rho} {m : Nat} (h3 : ρ[m]? = some (some (.ref p))) (hi : ρ[i]? = some (some (nat l))) (hs : S p = some (.lst (bD f))) (hl : l / 2 < f.length) (q : Q (.bl (lv f l)) S) :
    tdOp (gEq not) (tdOp gIx (tdV m) (tdOp gDiv (tdV i) (tdC (D.int 2)))) (tdOp (gEq id) (tdOp gMod (tdV i) (tdC (D.int 2))) (tdC (D.int 1))) ρ S Q := by
  have hix := lv_at hl
  rw [← lv_ne, ← ic1] at q
  walk_at "nd"
  exact ⟨⟨by decide, by decide⟩, by first | exact ⟨by decide, q⟩ | exact ⟨by decide, trivial⟩⟩
theorem and_val {S : Store} {p : Addr} {f : List Bool} {l1 l2 : Nat} {Q : D → Store → Prop} {i j : Nat} {ρ : Rho} {m : Nat} (h3 : ρ[m]? = some (some (.ref p))) (hi : ρ[i]? = some (some (nat l1))) (hj : ρ[j]? = some (some (nat l2))) (hs : S p = some (.lst (bD f)))
    (h1 : l1 / 2 < f.length) (h2 : l2 / 2 < f.length) (q : Q (.bl (lv f l1 && lv f l2)) S) :
    tdAndV (tdOp (gEq not) (tdOp gIx (tdV m) (tdOp gDiv (tdV i) (tdC (D.int 2)))) (tdOp (gEq id) (tdOp gMod (tdV i) (tdC (D.int 2))) (tdC (D.int 1))))
      (tdOp (gEq not) (tdOp gIx (tdV m) (tdOp gDiv (tdV j) (tdC (D.int 2)))) (tdOp (gEq id) (tdOp gMod (tdV j) (tdC (D.int 2))) (tdC (D.int 1)))) ρ S Q := by
  refine lit_val h3 hi hs h1 ⟨_, rfl, ?_⟩
  cases h : lv f l1 with
  | true =>
    rw [h, Bool.true_and] at q
    exact iteT (lit_val h3 hj hs h2 q)
  | false =>
    rw [h, Bool.false_and] at q
    exact iteF q
def m_law_values : M := fun ds S Q E => ∃ (n : Net) (row : List Bool), ds = [n.d, .tup (bD row), .non] ∧ n.ok ∧ row.length + 1 = n.start ∧ Q (.lst (bD (n.vals row))) S
theorem d__law_values (Z : Zf P w K mg base) : Ca P w K mg base 1 "_law_values" ["net", "row", "stuck"] m_law_values := by
  obtain ⟨fd, F, hb⟩ := Z.F__law_values
  refine ⟨_, fd, df_of (k := 0) F sc__law_values (fun cdv A outer s H E F0 E' B => (dss_cons (ds_set 3 nd__law_values (de_op od_catB (de_lst (da_cons de_bl da_nil)) (de_cT oc_list rfl Z.f_list bb_list (da_cons (dv 1) da_nil))))
    (dss_cons (ds_for (passes_of rfl) rfl (di_rng rfl Z.f_range (da_cons (de_op od_addT (de_op od_addT de_int (de_cB oc_len rfl Z.f_len bb_len (da_cons (dv 1) da_nil))) (de_cB oc_len rfl Z.f_len bb_len (da_cons (de_ix (dv 0) de_int) da_nil))) da_nil)) (dg_name 4 nd__law_values) (dss_cons (ds_if (dt_cmp (od_ord op_ge) (dv 4) (de_cB oc_len rfl Z.f_len bb_len (da_cons (dv 3) da_nil)) rfl) (dss_cons (ds_asg (de_ix (de_ix (dv 0) de_int) (de_op od_sub (de_op od_sub (dv 4) (de_cB oc_len rfl Z.f_len bb_len (da_cons (dv 1) da_nil))) de_int)) (dg_tup (n := 2) rfl (dgs_cons (dg_name 5 nd__law_values) (dgs_cons (dg_name 6 nd__law_values) dgs_nil))))
    (dss_one (ds_expr (de_app (dv 3) (de_and (de_cmp (od_ne B.units) (de_ix (dv 3) (de_op od_div (dv 5) de_int)) (de_cmp (od_eq B.units) (de_op od_mod (dv 5) de_int) de_int rfl) rfl) (de_one (de_cmp (od_ne B.units) (de_ix (dv 3) (de_op od_div (dv 6) de_int)) (de_cmp (od_eq B.units) (de_op od_mod (dv 6) de_int) de_int rfl) rfl))))))) dss_nil)
    (dss_one (ds_if (PW.pt (dw_and (dt_notN (dv 2)) (dw_and1 (dt_cmp (od_eq B.units) (de_ix (dv 2) de_int) (dv 4) rfl)))) (dss_one (ds_asg (de_ix (dv 2) de_int) (dg_sub (dv 3) (dv 4)))) dss_nil))))
    (dss_one (ds_ret (dz 3)))))) ?_, Z.g__law_values, F.kp, hb⟩
  rintro ds S Q E hl ⟨n, row, rfl, hn, hr, hq⟩
  rw [show startD N__law_values [n.d, .tup (bD row), .non] = [some n.d, some (.tup (bD row)), some .non, none, none, none, none] from rfl]
  clear hl
  have hrl : row.length ≤ 10 := by have := hn.i2; have := hn.f2; have : n.start = 1 + n.ni + n.fs.length := rfl; omega
  have hgl := hn.g1
  have hgg : ∀ (k : Nat) (p : Nat × Nat), n.gs[k]? = some p → p.1 < 2 * (row.length + 1 + k) ∧ p.2 < 2 * (row.length + 1 + k) := by rw [hr]; exact hn.g2
  clear hr
  have hnd : n.d = .tup [.tup (n.ins.map D.str), .tup (List.zipWith (fun x b => .tup [.str x, .bl b]) rgN n.fs), .tup (n.gs.map DL.prD), .tup (List.zipWith (fun x l => .tup [.str x, nat l]) ouN n.os), .tup (n.ns.map nat)] := rfl
  generalize D.tup (n.ins.map D.str) = c0 at hnd
  generalize D.tup (List.zipWith (fun x b => D.tup [.str x, .bl b]) rgN n.fs) = c1 at hnd
  generalize D.tup (List.zipWith (fun x l => D.tup [.str x, nat l]) ouN n.os) = c3 at hnd
  generalize D.tup (n.ns.map nat) = c4 at hnd
  rw [hnd]
  clear hnd
  refine seq_cut (fun ρ S1 => ∃ p, S p = none ∧ ρ = [some (.tup [c0, c1, .tup (n.gs.map DL.prD), c3, c4]), some (.tup (bD row)), some .non, some (.ref p), none, none, none] ∧ S1 = sup S p (.lst (bD (n.part row 0)))) (fun Rest hR => ?_) ?_
  · clear hq hn
    walk_at "nd"
    exact ⟨sz5 (show 0 + 1 + row.length ≤ 1000000 by omega), fun p hp => hR _ _ ⟨p, hp, rfl, by rw [show n.part row 0 = false :: row by unfold Net.part; rw [Nat.zero_sub, List.take_zero]; rfl]; rfl⟩⟩
  rintro ρ S1 ⟨p, hp, rfl, rfl⟩
  refine seq_cut (fun ρ S2 => ∃ x4 x5 x6, ρ = [some (.tup [c0, c1, .tup (n.gs.map DL.prD), c3, c4]), some (.tup (bD row)), some .non, some (.ref p), x4, x5, x6] ∧ S2 = sup S p (.lst (bD (n.vals row)))) (fun Rest hR => ?_) ?_
  · clear hq
    walk_at "nd"
    refine ⟨by omega, by omega, ?_⟩
    rw [rng_nat]
    refine for_ind (fun ds ρ S' => ∃ (j m : Nat) (x4 x5 x6 : Option D), ds = (List.range' j m).map nat ∧ j + m = 1 + row.length + n.gs.length ∧
      ρ = [some (.tup [c0, c1, .tup (n.gs.map DL.prD), c3, c4]), some (.tup (bD row)), some .non, some (.ref p), x4, x5, x6] ∧ S' = sup S p (.lst (bD (n.part row j)))) ?_ ?_ _ _ _
      ⟨0, 1 + row.length + n.gs.length, none, none, none, rfl, by omega, rfl, rfl⟩
    · rintro ρ S' ⟨j, m, x4, x5, x6, e1, e2, rfl, rfl⟩
      have hm : m = 0 := by
        cases m with
        | zero => rfl
        | succ m => rw [List.range'_succ] at e1; cases e1
      have hj : j = 1 + row.length + n.gs.length := by omega
      subst hj
      rw [part_all]
      exact hR _ _ ⟨x4, x5, x6, rfl, rfl⟩
    · rintro d ds ρ S' W hW ⟨j, m, x4, x5, x6, e1, e2, rfl, rfl⟩
      cases m with
      | zero => cases e1
      | succ m =>
        rw [List.range'_succ, List.map_cons] at e1
        injection e1 with e1 e5
        subst e1 e5
        clear hR
        show tdSeq _ _ _ [some (.tup [c0, c1, .tup (n.gs.map DL.prD), c3, c4]), some (.tup (bD row)), some .non, some (.ref p), some (nat j), x5, x6] _
        refine seq_cut (fun ρ S1 => ∃ x5 x6, ρ = [some (.tup [c0, c1, .tup (n.gs.map DL.prD), c3, c4]), some (.tup (bD row)), some .non, some (.ref p), some (nat j), x5, x6] ∧ S1 = sup S p (.lst (bD (n.part row (j + 1))))) (fun Rest2 hR2 => ?_) ?_
        · clear hW
          have hpl := part_len n row (j := j) (by omega)
          refine ifS_cut (decide (row.length + 1 ≤ j)) (fun Q' q => ?_) (fun hb3 => ?_) (fun hb3 => ?_)
          · have e0 : decide (row.length + 1 ≤ j) = decide ((((n.part row j).length : Nat) : Int) ≤ (j : Int)) := by
              by_cases h : row.length + 1 ≤ j
              · rw [decide_eq_true h, decide_eq_true (by omega)]
              · rw [decide_eq_false h, decide_eq_false (by omega)]
            rw [e0] at q
            clear hpl e0 hR2
            walk_at "nd"
          · have hj := of_decide_eq_true hb3
            obtain ⟨pp, hpp⟩ : ∃ pp, n.gs[j - (row.length + 1)]? = some pp := ⟨_, List.getElem?_eq_getElem (show j - (row.length + 1) < n.gs.length by omega)⟩
            have hg2 := hgg _ _ hpp
            have hlen : (n.part row j).length = j := by omega
            have hup := part_up n row hj hpp
            have e0 : (j : Int) - ((row.length : Nat) : Int) - 1 = ((j - (row.length + 1) : Nat) : Int) := by omega
            refine seq_cut (fun ρ S1 => ρ = [some (.tup [c0, c1, .tup (n.gs.map DL.prD), c3, c4]), some (.tup (bD row)), some .non, some (.ref p), some (nat j), some (nat pp.1), some (nat pp.2)] ∧ S1 = sup S p (.lst (bD (n.part row j)))) (fun Rest3 hR3 => ?_) ?_
            · clear hR2 hup hlen hpl hg2 hgg hn
              walk_at "nd"
              exact ⟨_, rfl, rfl, _, _, rfl, _, _, rfl, rfl, hR3 _ _ ⟨rfl, rfl⟩⟩
            rintro ρ S1 ⟨rfl, rfl⟩
            refine ⟨.ref p, rfl, ⟨_, _, rfl, sup_same⟩, ?_⟩
            refine and_val (f := n.part row j) rfl rfl rfl sup_same (by omega) (by omega) ?_
            refine ⟨p, _, rfl, sup_same, by rw [List.length_map, hlen]; exact Nat.lt_of_lt_of_le (show j < 1000 by omega) (sz5 (by omega)), hR2 _ _ ⟨_, _, rfl, ?_⟩⟩
            rw [sup_sup, hup]
            unfold bD
            rw [List.map_append]
            rfl
          · have hj := of_decide_eq_false hb3
            rw [part_low n row (by omega)] at hR2
            exact hR2 _ _ ⟨_, _, rfl, rfl⟩
        rintro ρ S1 ⟨x5, x6, rfl, rfl⟩
        clear hn
        have hout := hW _ _ ⟨j + 1, m, some (nat j), x5, x6, rfl, by omega, rfl, rfl⟩
        clear hW
        walk_at "nd"
  rintro ρ S2 ⟨x4, x5, x6, rfl, rfl⟩
  clear hn
  refine ⟨p, _, rfl, sup_same, ?_⟩
  rw [sdel_sup hp]
  exact fini hq
end K06
namespace K06
open PySem PySem.Spec L2 DL
local macro_rules | `(tactic| walk_at "nd") => `(tactic| simp only [icO, isN0, gCatB, gEq_bb, tdLcB, tdDNew, tdNNew, tdNGet, tdNPut, tdFGet, tdiF, tdDctF, tdDc, tdDcN, tdTru, tdDAugG, tdDictZ, tdCallV, tdLc2, ln_4, ln_5, ln_6, fmod_2, fdiv_2, gAddT, tdIdx, gdUnl, tdiD, gSortI, gMin2, gMax2, gTuple, gDictP, tdLcT, lcT, setD, unsetD, tdKGet, tdKGet2, tdGet2, tdPop, tdSeq, tdAsg, tdV, gdName, tdAnd, tdOr, tdNot, tdB, tdOp, tdCB, tdCons, tdNil, tdC, tdAug, tdSl, tdP, tdRet, tdTup, tdIf, tdIfS, gOrd, gI0, gI, gLen, gIx, gAdd, gInt, vw, ixP, gSl, tdDrop, tdRetN, tdNext, gIn_sc, gIn_ts, gIn_ls, gIn_t2, gIn_l2, gIn_l4, tdApp, sl_0, sl_1, sl_2, sl_3, sl_4, sl_5, ff, tt', true_and, id,
  eqS, tdFor, tdiT, tdiL, tdiR, tdXp, gList, gEq_ns, tdJoin, gJoin, vwS, gMul, gMod, gDiv, gPow, gI, tdAugS, gdSub, gSet, ixN_2, ixN_3, atI_3, atI_4, gEq_ss, gEq_ii, tdDict, tdPairs, tdNeg, Option.isNone_none, Option.isNone_some, gIsi, tdGet, tdDPut, tdDAug, tdIsN, tdNotN, DO.dic.injEq, Option.isNone_none, Option.isNone_some, gIn_l2, gIn_t2, Option.getD_some, tdLc, gMax, tdNoP, forR, tdRaise, tdCall, tdNotV, tdAndV, tdOrV, tdBox, tdZ, gdTup, gdCons, gdNil, tdBreak, tdCont, tdYes, icast, icast1, icast2, icast3, tdLst, gIn_l4, icastL, icastE, icastZ, ln_0, ln_1, ln_2, ln_3,
  List.getElem?_cons_zero, List.getElem?_cons_succ, List.set_cons_zero, List.set_cons_succ, Option.some.injEq, exists_eq_left', exists_eq_left, D.bl.injEq, decide_eq_true_eq,
  tdFldC, tdMeth, tdMake, tdPutF, tdAugF, D.ref.injEq, DO.ins.injEq, and_assoc, DL.gSub, D.int.injEq, D.str.injEq, sup_same, eq_self, not_true_eq_false, not_false_eq_true, Bool.false_eq_true, Bool.not_eq_true, decide_not, atIn, atI_0, atI_1, atI_2, List.getElem?_map, Option.map_some, Option.map_none, decide_true, decide_false, Bool.not_true, Bool.not_false, if_true, if_false, lm_0, lm_1, lm_2, List.length_map, exists_and_left, *])
variable {P : Program} {w : World} {K : PySem.W.Frag} {mg : Str → Option Value} {base : Heap}
theorem zipW_map {α β γ : Type} (f : α → β → γ) : ∀ (xs : List α) (ys : List β), List.zipWith f xs ys = (xs.zip ys).map fun p => f p.1 p.2
  | [], _ => by simp
  | _ :: _, [] => by simp
  | x :: xs, y :: ys => by
    rw [List.zipWith_cons_cons, List.zip_cons_cons, List.map_cons, zipW_map f xs ys]
theorem zip_snd {α β : Type} : ∀ (xs : List α) (ys : List β), ys.length ≤ xs.length → (xs.zip ys).map (fun p => p.2) = ys
  | [], [], _ => rfl
  | [], _ :: _, h => by simp at h
  | _ :: _, [], _ => by simp
  | x :: xs, y :: ys, h => by
    rw [List.zip_cons_cons, List.map_cons, zip_snd xs ys (by simpa using h)]
theorem zip_fst' {α β : Type} : ∀ (xs : List α) (ys : List β), (xs.zip ys).map (fun p => p.1) = xs.take ys.length
  | [], [] => rfl
  | [], _ :: _ => rfl
  | _ :: _, [] => by simp
  | x :: xs, y :: ys => by
    rw [List.zip_cons_cons, List.map_cons, zip_fst' xs ys, List.length_cons, List.take_succ_cons]
def Net.rgD (n : Net) : List D := (rgN.zip n.fs).map fun p => .tup [.str p.1, .bl p.2]
def Net.ouD (n : Net) : List D := (ouN.zip n.os).map fun p => .tup [.str p.1, nat p.2]
theorem Net.d_eq (n : Net) : n.d = .tup [.tup (n.ins.map D.str), .tup n.rgD, .tup (n.gs.map DL.prD), .tup n.ouD, .tup (n.ns.map nat)] := by
  unfold Net.d Net.rgD Net.ouD
  rw [zipW_map, zipW_map]
/-- a literal's value, of a list that is told -/
theorem lit_valF {S : Store} {f : List Bool} {l : Nat} {Q : D → Store → Prop} {i : Nat} {ρ : Rho} {m : Nat} (h3 : ρ[m]? = some (some (.lst (bD f)))) (hi : ρ[i]? = some (some (nat l))) (hl : l / 2 < f.length) (q : Q (.bl (lv f l)) S) :
    tdOp (gEq not) (tdOp gIx (tdV m) (tdOp gDiv (tdV i) (tdC (D.int 2)))) (tdOp (gEq id) (tdOp gMod (tdV i) (tdC (D.int 2))) (tdC (D.int 1))) ρ S Q := by
  have hix := lv_at hl
  rw [← lv_ne, ← ic1] at q
  walk_at "nd"
  exact ⟨⟨by decide, by decide⟩, by first | exact ⟨by decide, q⟩ | exact ⟨by decide, trivial⟩⟩
def rowD (r : List Bool) : D := .tup (bD r)
theorem rowD_app (a b : List Bool) : D.tup (bD a ++ bD b) = rowD (a ++ b) := by unfold rowD bD; rw [List.map_append]
theorem Net.ok.lits {n : Net} (h : n.ok) {row : List Bool} (hr : row.length + 1 = n.start) {l : Nat} (hl : l ∈ n.os ∨ l ∈ n.ns) : l / 2 < (n.vals row).length := by
  rw [vals_len]
  have : l < 2 * n.size := by
    rcases hl with h1 | h1
    · exact h.o3 l h1
    · exact h.n2 l h1
  unfold Net.size at this
  omega
def m_law_clock : M := fun ds S Q E => ∃ (n : Net) (st inp : List Bool), ds = [n.d, rowD st, rowD inp, .non] ∧ n.ok ∧ st.length = n.fs.length ∧ inp.length = n.ni ∧ Q (.tup [rowD (n.out st inp), rowD (n.nxt st inp)]) S
theorem d__law_clock (Z : Zf P w K mg base) : Ca P w K mg base 2 "_law_clock" ["net", "state", "inputs", "stuck"] m_law_clock := by
  obtain ⟨fd, F, hb⟩ := Z.F__law_clock
  refine ⟨_, fd, df_of (k := 1) F sc__law_clock (fun cdv A outer s H E F0 E' B => (dss_cons (ds_set 4 nd__law_clock (de_ca (d__law_values Z) (B.mono (by omega)) rfl (da_cons (dv 0) (da_cons (de_op od_addT (dv 2) (dv 1)) (da_cons (dv 3) da_nil)))))
    (dss_cons (ds_set 5 nd__law_clock (de_cT oc_tuple rfl Z.f_tuple bb_tuple (da_cons (de_lcT [6, 7] rfl rfl nd__law_clock (di_tup (de_ix (dv 0) de_int)) (blkOk_by (own := [("name", 6), ("literal", 7)]) (N := N__law_clock) (sc := defScope st__law_clock) (by decide +kernel)) (fun _ _ _ _ _ => pg_tup rfl (pgs_cons (pg_name (i := 6) nd__law_clock rfl (Or.inl rfl)) (pgs_cons (pg_name (i := 7) nd__law_clock rfl (Or.inl rfl)) pgs_nil))) (fun _ _ _ _ _ => dts_nil) (fun _ _ _ _ _ => (de_cmp (od_ne B.blk.units) (de_ix (dv 4) (de_op od_div (dv 7) de_int)) (de_cmp (od_eq B.blk.units) (de_op od_mod (dv 7) de_int) de_int rfl) rfl))) da_nil)))
    (dss_one (ds_ret (de_tup (da_cons (dv 5) (da_cons (de_cT oc_tuple rfl Z.f_tuple bb_tuple (da_cons (de_lc rfl nd__law_clock (di_tup (de_ix (dv 0) de_int)) (blkOk_by (own := [("literal", 7)]) (N := N__law_clock) (sc := defScope st__law_clock) (by decide +kernel)) (fun _ _ _ _ _ => pg_name (i := 7) nd__law_clock rfl (Or.inl rfl)) (fun _ _ _ _ _ => dts_nil) (fun _ _ _ _ _ => (de_cmp (od_ne B.blk.units) (de_ix (dv 4) (de_op od_div (dv 7) de_int)) (de_cmp (od_eq B.blk.units) (de_op od_mod (dv 7) de_int) de_int rfl) rfl))) da_nil)) da_nil)))))))) ?_, Z.g__law_clock, F.kp, hb⟩
  rintro ds S Q E hl ⟨n, st, inp, rfl, hn, h1, h2, hq⟩
  rw [show startD N__law_clock [n.d, rowD st, rowD inp, .non] = [some n.d, some (rowD st), some (rowD inp), some .non, none, none, none, none] from rfl]
  clear hl
  have hr : (inp ++ st).length + 1 = n.start := by rw [List.length_append]; unfold Net.start; omega
  have hlo : ∀ l, l ∈ n.os → l / 2 < (n.vals (inp ++ st)).length := fun l h => hn.lits hr (.inl h)
  have hln : ∀ l, l ∈ n.ns → l / 2 < (n.vals (inp ++ st)).length := fun l h => hn.lits hr (.inr h)
  have ho3 := hn.o3
  have hol : n.os.length ≤ ouN.length := by have := hn.o2; show _ ≤ 6; omega
  have hnl : n.ns.length ≤ 4 := by have := hn.n1; have := hn.f2; omega
  have hiz : (bD inp).length + (bD st).length ≤ 100 := by
    unfold bD
    rw [List.length_map, List.length_map]
    have := hn.i2; have := hn.f2; omega
  refine seq_cut (fun ρ S1 => ρ = [some n.d, some (rowD st), some (rowD inp), some .non, some (.lst (bD (n.vals (inp ++ st)))), none, none, none] ∧ S1 = S) (fun Rest hR => ?_) ?_
  · have hR := hR _ _ ⟨rfl, rfl⟩
    have e := rowD_app inp st
    unfold rowD at e hR ⊢
    clear hq
    walk_at "nd"
    exact ⟨sz5 (show n.ni + n.fs.length ≤ 1000000 by have := hn.i2; have := hn.f2; omega), n, inp ++ st, rfl, hn, hr, hR⟩
  rintro ρ S1 ⟨rfl, rfl⟩
  have hout : n.out st inp = n.os.map (lv (n.vals (inp ++ st))) := rfl
  have hnxt : n.nxt st inp = n.ns.map (lv (n.vals (inp ++ st))) := rfl
  rw [hout, hnxt] at hq
  generalize hvals : n.vals (inp ++ st) = vals at *
  rw [Net.d_eq]
  have hol2 : n.ouD = (ouN.zip n.os).map fun p => D.tup [.str p.1, nat p.2] := rfl
  generalize D.tup (n.ins.map D.str) = c0
  generalize D.tup n.rgD = c1
  generalize D.tup (n.gs.map DL.prD) = c2
  rw [hol2]
  refine seq_cut (fun ρ S2 => ρ = [some (.tup [c0, c1, c2, .tup ((ouN.zip n.os).map fun p => D.tup [.str p.1, nat p.2]), .tup (n.ns.map nat)]), some (rowD st), some (rowD inp), some D.non, some (.lst (bD vals)), some (rowD (n.os.map (lv vals))), none, none] ∧ S2 = S1) (fun Rest hR => ?_) ?_
  · have hR := hR _ _ ⟨rfl, rfl⟩
    refine ⟨_, rfl, _, rfl, ?_⟩
    show lcT [6, 7] _ _ _ ((ouN.zip n.os).map fun p => D.tup [.str p.1, nat p.2]) [] _ _
    refine lcT_m (fun p : Tx × Nat => D.bl (lv vals p.2)) (fun p => [D.str p.1, nat p.2]) (fun _ => rfl) _ _ _ (fun p hp Q' q => ?_) ?_ ?_
    · exact lit_valF (l := p.2) rfl rfl (hlo _ (List.of_mem_zip hp).2) q
    · rw [List.length_zip]; show 0 + min 6 _ ≤ _; omega
    · have e : [] ++ (ouN.zip n.os).map (fun p => D.bl (lv vals p.2)) = bD (n.os.map (lv vals)) := by
        have := zip_snd ouN n.os hol
        unfold bD
        rw [List.nil_append, List.map_map]
        conv => rhs; rw [← this, List.map_map]
        rfl
      rw [e]
      dsimp only [tdNil, tdCons]
      exact gTuple_lst (hR)
  rintro ρ S2 ⟨rfl, rfl⟩
  generalize D.tup ((ouN.zip n.os).map fun p => D.tup [.str p.1, nat p.2]) = c3
  refine ⟨_, rfl, _, rfl, _, rfl, ?_⟩
  show lcR 7 _ _ _ (n.ns.map nat) [] _ _
  refine lcR_n (fun l => D.bl (lv vals l)) n.ns [] _ (fun l hl Q' q => lit_valF (l := l) rfl rfl (hln _ hl) q) (by show 0 + n.ns.length ≤ _; omega) ?_
  have e : [] ++ n.ns.map (fun l => D.bl (lv vals l)) = bD (n.ns.map (lv vals)) := by
    unfold bD
    rw [List.nil_append, List.map_map]
    rfl
  rw [e]
  dsimp only [tdNil, tdCons]
  exact gTuple_lst ⟨sz5 (show 2 ≤ 1000000 by decide), fini hq⟩
theorem first_go {S : Store} {n : Net} (hn : n.ok) {vs : List Nat} {a b : Nat} {te : TD} {ρ : Rho} {Q : List D → Store → Prop} (hv : vs = [a, b]) (h : ∀ (x : Tx) (c : Bool) (Q' : D → Store → Prop), Q' (.bl c) S → te (setD (unsetD ρ vs) vs [.str x, .bl c]) S Q') (q : Q (bD n.fs) S) :
    lcT vs tdYes te ρ n.rgD [] S Q := by
  show lcT _ _ _ _ ((rgN.zip n.fs).map fun p => D.tup [.str p.1, .bl p.2]) [] _ _
  refine lcT_m (fun p : Tx × Bool => D.bl p.2) (fun p => [D.str p.1, .bl p.2]) (fun _ => by rw [hv]; rfl) _ _ _ (fun p hp Q' q => h _ _ _ q) ?_ ?_
  · rw [List.length_zip]; show 0 + min 4 _ ≤ _; omega
  · have e : [] ++ (rgN.zip n.fs).map (fun p => D.bl p.2) = bD n.fs := by
      have := zip_snd rgN n.fs hn.f2
      unfold bD
      rw [List.nil_append]
      conv => rhs; rw [← this, List.map_map]
      rfl
    rw [e]
    exact q
def m_law_first : M := fun ds S Q E => ∃ n : Net, ds = [n.d] ∧ n.ok ∧ Q (rowD n.fs) S
theorem d__law_first (Z : Zf P w K mg base) : Ca P w K mg base 1 "_law_first" ["net"] m_law_first := by
  obtain ⟨fd, F, hb⟩ := Z.F__law_first
  refine ⟨_, fd, df_of (k := 0) F sc__law_first (fun cdv A outer s H E F0 E' B => (dss_one (ds_ret (de_cT oc_tuple rfl Z.f_tuple bb_tuple (da_cons (de_lcT [1, 2] rfl rfl nd__law_first (di_tup (de_ix (dv 0) de_int)) (blkOk_by (own := [("name", 1), ("value", 2)]) (N := N__law_first) (sc := defScope st__law_first) (by decide +kernel)) (fun _ _ _ _ _ => pg_tup rfl (pgs_cons (pg_name (i := 1) nd__law_first rfl (Or.inl rfl)) (pgs_cons (pg_name (i := 2) nd__law_first rfl (Or.inl rfl)) pgs_nil))) (fun _ _ _ _ _ => dts_nil) (fun _ _ _ _ _ => (dv 2))) da_nil))))) ?_, Z.g__law_first, F.kp, hb⟩
  rintro ds S Q E hl ⟨n, rfl, hn, hq⟩
  rw [show startD N__law_first [n.d] = [some n.d, none, none] from rfl, Net.d_eq]
  refine ⟨_, rfl, _, rfl, ?_⟩
  show lcT [1, 2] _ _ _ n.rgD [] _ _
  refine first_go hn rfl (fun x c Q' q => ⟨_, rfl, q⟩) ?_
  dsimp only [tdNil, tdCons]
  exact gTuple_lst (fini hq)
def m_first_state : M := fun ds S Q E => ∃ n : Net, ds = [n.d] ∧ n.ok ∧ Q (rowD n.fs) S
theorem d_first_state (Z : Zf P w K mg base) : Ca P w K mg base 1 "first_state" ["net"] m_first_state := by
  obtain ⟨fd, F, hb⟩ := Z.F_first_state
  refine ⟨_, fd, df_of (k := 0) F sc_first_state (fun cdv A outer s H E F0 E' B => (dss_one (ds_ret (de_cT oc_tuple rfl Z.f_tuple bb_tuple (da_cons (de_lcT [1, 2] rfl rfl nd_first_state (di_tup (de_ix (dv 0) de_int)) (blkOk_by (own := [("_", 1), ("value", 2)]) (N := N_first_state) (sc := defScope st_first_state) (by decide +kernel)) (fun _ _ _ _ _ => pg_tup rfl (pgs_cons (pg_name (i := 1) nd_first_state rfl (Or.inl rfl)) (pgs_cons (pg_name (i := 2) nd_first_state rfl (Or.inl rfl)) pgs_nil))) (fun _ _ _ _ _ => dts_nil) (fun _ _ _ _ _ => (dv 2))) da_nil))))) ?_, Z.g_first_state, F.kp, hb⟩
  rintro ds S Q E hl ⟨n, rfl, hn, hq⟩
  rw [show startD N_first_state [n.d] = [some n.d, none, none] from rfl, Net.d_eq]
  refine ⟨_, rfl, _, rfl, ?_⟩
  show lcT [1, 2] _ _ _ n.rgD [] _ _
  refine first_go hn rfl (fun x c Q' q => ⟨_, rfl, q⟩) ?_
  dsimp only [tdNil, tdCons]
  exact gTuple_lst (fini hq)
end K06
namespace K06
inductive Op3 where
  | and | or | imp
deriving DecidableEq
/-- claims of what is so, known and told -/
inductive Cl where
  | word (i : Nat) | non | two (o : Op3) (a b : Cl) | knows (w : Bool) (a : Cl) | told (a b : Cl)
def Op3.ev : Op3 → Bool → Bool → Bool
  | .and, a, b => a && b
  | .or, a, b => a || b
  | .imp, a, b => !a || b
def Cl.ev (s : List Bool) : Cl → Bool
  | .word i => s.getD i false
  | .non => false
  | .two o a b => o.ev (a.ev s) (b.ev s)
  | .knows _ _ => false
  | .told _ _ => false
def Cl.ok (m : Nat) : Cl → Prop
  | .word i => i < m
  | .non => True
  | .two _ a b => a.ok m ∧ b.ok m
  | .knows _ a => a.ok m
  | .told a b => a.ok m ∧ b.ok m
def Cl.plain : Cl → Prop
  | .word _ => True
  | .non => True
  | .two _ a b => a.plain ∧ b.plain
  | .knows _ _ => False
  | .told _ _ => False
def Cl.dp : Cl → Nat
  | .word _ => 0
  | .non => 0
  | .two _ a b => max a.dp b.dp + 1
  | .knows _ a => a.dp + 1
  | .told a b => max a.dp b.dp + 1
section
variable {R L : Type} [DecidableEq R] [DecidableEq L] (val : R → List Bool) (look : Bool → R → L)
def kn (lo : R → L) (good rs : List R) : List R := rs.filter fun r => !decide (lo r ∈ (rs.filter fun q => !decide (q ∈ good)).map lo)
def wh : Cl → List R → List R
  | .word i, rs => rs.filter fun r => (val r).getD i false
  | .non, _ => []
  | .knows w a, rs => kn (look w) (wh a rs) rs
  | .told a b, rs => rs.filter fun r => !decide (r ∈ wh a rs) || decide (r ∈ wh b (wh a rs))
  | .two .and a b, rs => rs.filter fun r => decide (r ∈ wh a rs) && decide (r ∈ wh b rs)
  | .two .or a b, rs => rs.filter fun r => decide (r ∈ wh a rs) || decide (r ∈ wh b rs)
  | .two .imp a b, rs => rs.filter fun r => !decide (r ∈ wh a rs) || decide (r ∈ wh b rs)
variable {val look}
theorem wh_nil : ∀ c : Cl, wh val look c [] = []
  | .word i => rfl
  | .non => rfl
  | .knows w a => rfl
  | .told a b => rfl
  | .two .and a b => rfl
  | .two .or a b => rfl
  | .two .imp a b => rfl
theorem wh_sub : ∀ (c : Cl) (rs : List R) (r : R), r ∈ wh val look c rs → r ∈ rs
  | .word i, rs, r, h => (List.mem_filter.mp h).1
  | .non, rs, r, h => by cases h
  | .knows w a, rs, r, h => (List.mem_filter.mp h).1
  | .told a b, rs, r, h => (List.mem_filter.mp h).1
  | .two .and a b, rs, r, h => (List.mem_filter.mp h).1
  | .two .or a b, rs, r, h => (List.mem_filter.mp h).1
  | .two .imp a b, rs, r, h => (List.mem_filter.mp h).1
theorem wh_plain : ∀ (c : Cl) (rs : List R) (r : R), c.plain → (r ∈ wh val look c rs ↔ r ∈ rs ∧ c.ev (val r) = true)
  | .word i, rs, r, h => by unfold wh Cl.ev; exact List.mem_filter
  | .non, rs, r, h => by unfold wh Cl.ev; simp
  | .two .and a b, rs, r, h => by
    unfold wh Cl.ev Op3.ev
    rw [List.mem_filter, Bool.and_eq_true, Bool.and_eq_true, decide_eq_true_eq, decide_eq_true_eq, wh_plain a rs r h.1, wh_plain b rs r h.2]
    constructor
    · exact fun ⟨p, q, t⟩ => ⟨p, q.2, t.2⟩
    · exact fun ⟨p, q, t⟩ => ⟨p, ⟨p, q⟩, p, t⟩
  | .two .or a b, rs, r, h => by
    unfold wh Cl.ev Op3.ev
    rw [List.mem_filter, Bool.or_eq_true, Bool.or_eq_true, decide_eq_true_eq, decide_eq_true_eq, wh_plain a rs r h.1, wh_plain b rs r h.2]
    constructor
    · exact fun ⟨p, q⟩ => ⟨p, q.elim (fun t => .inl t.2) fun t => .inr t.2⟩
    · exact fun ⟨p, q⟩ => ⟨p, q.elim (fun t => .inl ⟨p, t⟩) fun t => .inr ⟨p, t⟩⟩
  | .two .imp a b, rs, r, h => by
    unfold wh Cl.ev Op3.ev
    rw [List.mem_filter, Bool.or_eq_true, Bool.or_eq_true, Bool.not_eq_true', Bool.not_eq_true', decide_eq_false_iff_not, decide_eq_true_eq, wh_plain a rs r h.1, wh_plain b rs r h.2]
    constructor
    · rintro ⟨p, q⟩
      refine ⟨p, q.elim (fun t => .inl ?_) fun t => .inr t.2⟩
      cases e : a.ev (val r)
      · rfl
      · exact (t ⟨p, e⟩).elim
    · rintro ⟨p, q⟩
      exact ⟨p, q.elim (fun t => .inl fun u => by rw [t] at u; cases u.2) fun t => .inr ⟨p, t⟩⟩
theorem wh_knows (w : Bool) (a : Cl) (rs : List R) (r : R) : r ∈ wh val look (.knows w a) rs ↔ r ∈ rs ∧ ∀ q ∈ rs, look w q = look w r → q ∈ wh val look a rs := by
  show r ∈ kn (look w) (wh val look a rs) rs ↔ _
  unfold kn
  rw [List.mem_filter, Bool.not_eq_true', decide_eq_false_iff_not]
  refine and_congr_right fun hr => ?_
  constructor
  · intro h q hq e
    refine Decidable.byContradiction fun n => h (List.mem_map.mpr ⟨q, List.mem_filter.mpr ⟨hq, ?_⟩, e⟩)
    rw [Bool.not_eq_true', decide_eq_false_iff_not]
    exact n
  · rintro h n
    obtain ⟨q, h1, h2⟩ := List.mem_map.mp n
    obtain ⟨h3, h4⟩ := List.mem_filter.mp h1
    rw [Bool.not_eq_true', decide_eq_false_iff_not] at h4
    exact h4 (h q h3 h2)
variable (val look) in
/-- what one knows of a plain claim -/
def Kw (w : Bool) (c : Cl) (rs : List R) (r : R) : Prop := ∀ q ∈ rs, look w q = look w r → c.ev (val q) = true
theorem wh_Kw {w : Bool} {c : Cl} {rs : List R} {r : R} (hc : c.plain) (hr : r ∈ rs) : r ∈ wh val look (.knows w c) rs ↔ Kw val look w c rs r := by
  rw [wh_knows]
  constructor
  · exact fun ⟨_, h⟩ q hq e => ((wh_plain c rs q hc).mp (h q hq e)).2
  · exact fun h => ⟨hr, fun q hq e => (wh_plain c rs q hc).mpr ⟨hq, h q hq e⟩⟩
variable {rs : List R} {r : R} {one other : Cl}
theorem k_so {w : Bool} (hr : r ∈ rs) (h : Kw val look w one rs r) : one.ev (val r) = true := h r hr rfl
theorem k_both {w : Bool} (h1 : one.plain) (h2 : other.plain) (hr : r ∈ rs) : r ∈ wh val look (.knows w (.two .and one other)) rs ↔ Kw val look w one rs r ∧ Kw val look w other rs r := by
  rw [wh_Kw (c := .two .and one other) ⟨h1, h2⟩ hr]
  constructor
  · intro h
    refine ⟨fun q hq e => ?_, fun q hq e => ?_⟩
    · have := h q hq e; unfold Cl.ev Op3.ev at this; rw [Bool.and_eq_true] at this; exact this.1
    · have := h q hq e; unfold Cl.ev Op3.ev at this; rw [Bool.and_eq_true] at this; exact this.2
  · rintro ⟨a, b⟩ q hq e
    show (one.ev (val q) && other.ev (val q)) = true
    rw [a q hq e, b q hq e]; rfl
theorem k_k {w : Bool} (h1 : one.plain) (hr : r ∈ rs) : r ∈ wh val look (.knows w (.knows w one)) rs ↔ Kw val look w one rs r := by
  rw [wh_knows]
  constructor
  · exact fun ⟨_, h⟩ => (wh_Kw h1 hr).mp (h r hr rfl)
  · exact fun h => ⟨hr, fun q hq e => (wh_Kw h1 hq).mpr fun u hu e2 => h u hu (e2.trans e)⟩
theorem k_n {w : Bool} (h1 : one.plain) (hr : r ∈ rs) : r ∈ wh val look (.knows w (.two .imp (.knows w one) .non)) rs ↔ ¬ Kw val look w one rs r := by
  rw [wh_knows]
  have key : ∀ q ∈ rs, q ∈ wh val look (.two .imp (.knows w one) .non) rs ↔ ¬ Kw val look w one rs q := by
    intro q hq
    rw [← wh_Kw h1 hq]
    show q ∈ rs.filter (fun r => !decide (r ∈ wh val look (.knows w one) rs) || decide (r ∈ wh val look Cl.non rs)) ↔ _
    rw [List.mem_filter, Bool.or_eq_true, Bool.not_eq_true', decide_eq_false_iff_not, decide_eq_true_eq]
    constructor
    · exact fun ⟨_, h⟩ => h.elim id fun t => by cases t
    · exact fun h => ⟨hq, .inl h⟩
  constructor
  · exact fun ⟨_, h⟩ => (key r hr).mp (h r hr rfl)
  · exact fun h => ⟨hr, fun q hq e => (key q hq).mpr fun hk => h fun u hu e2 => hk u hu (e2.trans e.symm)⟩
theorem k_more {w w' : Bool} (h : ∀ q r : R, look w' q = look w' r → look w q = look w r) (hk : Kw val look w one rs r) : Kw val look w' one rs r := fun q hq e => hk q hq (h _ _ e)
theorem k_bk {w w' : Bool} (h1 : one.plain) (h : look w' = look w) (hr : r ∈ rs) (hk : Kw val look w one rs r) : r ∈ wh val look (.knows w' (.knows w one)) rs := by
  rw [wh_knows]
  refine ⟨hr, fun q hq e => (wh_Kw h1 hq).mpr fun u hu e2 => hk u hu (e2.trans ?_)⟩
  rw [← h]; exact e
theorem k_told {w : Bool} (h1 : one.plain) (hr : r ∈ rs) : r ∈ wh val look (.told one (.knows w one)) rs := by
  show r ∈ rs.filter fun r => !decide (r ∈ wh val look one rs) || decide (r ∈ wh val look (.knows w one) (wh val look one rs))
  rw [List.mem_filter, Bool.or_eq_true, Bool.not_eq_true', decide_eq_false_iff_not, decide_eq_true_eq]
  refine ⟨hr, ?_⟩
  by_cases h : r ∈ wh val look one rs
  · refine .inr ((wh_Kw h1 h).mpr fun q hq _ => ((wh_plain one rs q h1).mp hq).2)
  · exact .inl h
end
/-- the state behind a run -/
def Net.fin (n : Net) : List Bool → List (List Bool) → List Bool
  | s, [] => s
  | s, i :: r => n.fin (n.nxt s i) r
def Net.lo (n : Net) (ps : List Nat) (s i : List Bool) : List Bool := ps.map fun p => (n.out s i).getD p false
/-- what one sees of a run -/
def Net.lk (n : Net) (ps : List Nat) : List Bool → List (List Bool) → List (List Bool)
  | _, [] => []
  | s, i :: r => n.lo ps s i :: n.lk ps (n.nxt s i) r
def rowsB : Nat → List (List Bool)
  | 0 => [[]]
  | k + 1 => (rowsB k).flatMap fun r => [r ++ [false], r ++ [true]]
def runsB (m : Nat) : Nat → List (List (List Bool))
  | 0 => [[]]
  | k + 1 => (runsB m k).flatMap fun r => (rowsB m).map fun i => r ++ [i]
theorem mem_rowsB : ∀ (k : Nat) (r : List Bool), r ∈ rowsB k ↔ r.length = k
  | 0, r => by
    show r ∈ [[]] ↔ _
    rw [List.mem_singleton, List.length_eq_zero_iff]
  | k + 1, r => by
    show r ∈ (rowsB k).flatMap _ ↔ _
    rw [List.mem_flatMap]
    constructor
    · rintro ⟨a, h1, h2⟩
      have h1 := (mem_rowsB k a).mp h1
      rcases List.mem_cons.mp h2 with rfl | h2
      · rw [List.length_append, h1]; rfl
      · rw [List.mem_singleton.mp h2, List.length_append, h1]; rfl
    · intro h
      have hn : r ≠ [] := fun z => by rw [z] at h; cases h
      refine ⟨r.dropLast, (mem_rowsB k _).mpr (by rw [List.length_dropLast, h]; rfl), ?_⟩
      have e := List.dropLast_concat_getLast hn
      cases hb : r.getLast hn with
      | false =>
        rw [hb] at e
        rw [e]
        exact List.mem_cons_self
      | true =>
        rw [hb] at e
        rw [e]
        exact List.mem_cons_of_mem _ List.mem_cons_self
theorem mem_runsB (m : Nat) : ∀ (k : Nat) (r : List (List Bool)), r ∈ runsB m k ↔ r.length = k ∧ ∀ i ∈ r, i.length = m
  | 0, r => by
    show r ∈ [[]] ↔ _
    rw [List.mem_singleton]
    constructor
    · rintro rfl; exact ⟨rfl, fun i h => by cases h⟩
    · exact fun h => List.length_eq_zero_iff.mp h.1
  | k + 1, r => by
    show r ∈ (runsB m k).flatMap _ ↔ _
    rw [List.mem_flatMap]
    constructor
    · rintro ⟨a, h1, h2⟩
      obtain ⟨h3, h4⟩ := (mem_runsB m k a).mp h1
      obtain ⟨i, h5, rfl⟩ := List.mem_map.mp h2
      refine ⟨by rw [List.length_append, h3]; rfl, fun j hj => ?_⟩
      rcases List.mem_append.mp hj with h | h
      · exact h4 j h
      · rw [List.mem_singleton.mp h]; exact (mem_rowsB m i).mp h5
    · rintro ⟨h, h2⟩
      have hn : r ≠ [] := fun z => by rw [z] at h; cases h
      refine ⟨r.dropLast, (mem_runsB m k _).mpr ⟨by rw [List.length_dropLast, h]; rfl, fun i hi => h2 i (List.Sublist.subset (List.dropLast_sublist _) hi)⟩, ?_⟩
      exact List.mem_map.mpr ⟨r.getLast hn, (mem_rowsB m _).mpr (h2 _ (List.getLast_mem hn)), List.dropLast_concat_getLast hn⟩
theorem rowsB_len : ∀ k : Nat, (rowsB k).length = 2 ^ k
  | 0 => rfl
  | k + 1 => by
    show ((rowsB k).flatMap _).length = _
    have : ∀ l : List (List Bool), (l.flatMap fun r => [r ++ [false], r ++ [true]]).length = 2 * l.length := by
      intro l
      induction l with
      | nil => rfl
      | cons a l ih => rw [List.flatMap_cons, List.length_append, ih]; show 2 + 2 * l.length = 2 * (l.length + 1); omega
    rw [this, rowsB_len k, Nat.pow_succ]; omega
theorem runsB_len (m : Nat) : ∀ k : Nat, (runsB m k).length = (2 ^ m) ^ k
  | 0 => rfl
  | k + 1 => by
    show ((runsB m k).flatMap _).length = _
    have : ∀ l : List (List (List Bool)), (l.flatMap fun r => (rowsB m).map fun i => r ++ [i]).length = 2 ^ m * l.length := by
      intro l
      induction l with
      | nil => rfl
      | cons a l ih => rw [List.flatMap_cons, List.length_append, ih, List.length_map, rowsB_len, List.length_cons, Nat.mul_succ]; omega
    rw [this, runsB_len m k, Nat.pow_succ, Nat.mul_comm]
theorem nxt_len (n : Net) (s i : List Bool) : (n.nxt s i).length = n.ns.length := by unfold Net.nxt; rw [List.length_map]
theorem out_len (n : Net) (s i : List Bool) : (n.out s i).length = n.os.length := by unfold Net.out; rw [List.length_map]
theorem fin_len (n : Net) (h : n.ns.length = n.fs.length) : ∀ (r : List (List Bool)) (s : List Bool), s.length = n.fs.length → (n.fin s r).length = n.fs.length
  | [], s, hs => hs
  | i :: r, s, _ => fin_len n h r _ (by rw [nxt_len, h])
theorem fin_snoc (n : Net) : ∀ (r : List (List Bool)) (s i : List Bool), n.fin s (r ++ [i]) = n.nxt (n.fin s r) i
  | [], s, i => rfl
  | j :: r, s, i => fin_snoc n r _ i
theorem lk_snoc (n : Net) (ps : List Nat) : ∀ (r : List (List Bool)) (s i : List Bool), n.lk ps s (r ++ [i]) = n.lk ps s r ++ [n.lo ps (n.fin s r) i]
  | [], s, i => rfl
  | j :: r, s, i => by
    show n.lo ps s j :: n.lk ps (n.nxt s j) (r ++ [i]) = n.lo ps s j :: _
    rw [lk_snoc n ps r]
    rfl
theorem lk_len (n : Net) (ps : List Nat) : ∀ (r : List (List Bool)) (s : List Bool), (n.lk ps s r).length = r.length
  | [], s => rfl
  | j :: r, s => by
    show (n.lo ps s j :: n.lk ps (n.nxt s j) r).length = _
    rw [List.length_cons, lk_len n ps r, List.length_cons]
theorem lk_more (n : Net) (ps qs : List Nat) : ∀ (q r : List (List Bool)) (s t : List Bool), n.lk (ps ++ qs) s q = n.lk (ps ++ qs) t r → n.lk ps s q = n.lk ps t r
  | [], [], s, t, _ => rfl
  | [], j :: r, s, t, h => by cases h
  | i :: q, [], s, t, h => by cases h
  | i :: q, j :: r, s, t, h => by
    injection h with h1 h2
    show n.lo ps s i :: n.lk ps (n.nxt s i) q = n.lo ps t j :: n.lk ps (n.nxt t j) r
    rw [lk_more n ps qs q r _ _ h2]
    unfold Net.lo at h1 ⊢
    rw [List.map_append, List.map_append] at h1
    rw [(List.append_inj h1 (by rw [List.length_map, List.length_map])).1]
/-- states that fit what was seen -/
def Bel (n : Net) (ps : List Nat) (done : List (List Bool)) (ss : List (List Bool)) : Prop := ∀ s, s ∈ ss ↔ ∃ q, (∀ i ∈ q, i.length = n.ni) ∧ n.lk ps n.fs q = done ∧ n.fin n.fs q = s
theorem Bel.init (n : Net) (ps : List Nat) : Bel n ps [] [n.fs] := fun s => by
  rw [List.mem_singleton]
  constructor
  · rintro rfl; exact ⟨[], (fun i h => by cases h), rfl, rfl⟩
  · rintro ⟨q, h1, h2, rfl⟩
    have := congrArg List.length h2
    rw [lk_len] at this
    rw [List.length_eq_zero_iff.mp this]; rfl
theorem Bel.next {n : Net} {ps : List Nat} {done ss s1 : List (List Bool)} {row : List Bool} (h : Bel n ps done ss)
    (h1 : ∀ s', s' ∈ s1 ↔ ∃ s ∈ ss, ∃ i, i.length = n.ni ∧ n.lo ps s i = row ∧ n.nxt s i = s') : Bel n ps (done ++ [row]) s1 := fun s' => by
  rw [h1]
  constructor
  · rintro ⟨s, hs, i, hi, e1, e2⟩
    obtain ⟨q, q1, q2, rfl⟩ := (h s).mp hs
    refine ⟨q ++ [i], fun j hj => ?_, by rw [lk_snoc, q2, e1], by rw [fin_snoc, e2]⟩
    rcases List.mem_append.mp hj with z | z
    · exact q1 j z
    · rw [List.mem_singleton.mp z]; exact hi
  · rintro ⟨q, q1, q2, q3⟩
    have hl := congrArg List.length q2
    rw [lk_len, List.length_append] at hl
    have hn : q ≠ [] := fun z => by rw [z] at hl; simp at hl
    have e := List.dropLast_concat_getLast hn
    rw [← e, lk_snoc] at q2
    rw [← e, fin_snoc] at q3
    obtain ⟨z1, z2⟩ := List.append_inj' q2 rfl
    injection z2 with z2 _
    exact ⟨n.fin n.fs q.dropLast, (h _).mpr ⟨q.dropLast, fun i hi => q1 i (List.Sublist.subset (List.dropLast_sublist _) hi), z1, rfl⟩, q.getLast hn, q1 _ (List.getLast_mem hn), z2, q3⟩
section
variable {n : Net} {ps qs : List Nat} {k : Nat}
def sees (n : Net) (pa pb : List Nat) (w : Bool) (r : List (List Bool)) : List (List Bool) := n.lk (if w then pb else pa) n.fs r
theorem bel_now {run ss : List (List Bool)} (h : Bel n ps (n.lk ps n.fs run) ss) (hr : ∀ i ∈ run, i.length = n.ni) : n.fin n.fs run ∈ ss := (h _).mpr ⟨run, hr, rfl, rfl⟩
theorem bel_all {run ss : List (List Bool)} {one : Cl} (h : Bel n ps (n.lk ps n.fs run) ss) :
    (ss.filter fun s => !one.ev s) = [] ↔ Kw (n.fin n.fs) (sees n ps qs) false one (runsB n.ni run.length) run := by
  rw [List.filter_eq_nil_iff]
  constructor
  · intro g q hq e
    have := g (n.fin n.fs q) ((h _).mpr ⟨q, ((mem_runsB _ _ _).mp hq).2, e, rfl⟩)
    rw [Bool.not_eq_true', Bool.not_eq_false] at this
    exact this
  · intro g s hs
    obtain ⟨q, q1, q2, rfl⟩ := (h s).mp hs
    have hl := congrArg List.length q2
    rw [lk_len, lk_len] at hl
    rw [g q ((mem_runsB _ _ _).mpr ⟨hl, q1⟩) q2]
    simp
end
end K06
namespace K06
open PySem PySem.Spec L2 DL
local macro_rules | `(tactic| walk_at "nd") => `(tactic| simp only [icO, isN0, gCatB, gEq_bb, tdLcB, tdDNew, tdNNew, tdNGet, tdNPut, tdFGet, tdiF, tdDctF, tdDc, tdDcN, tdTru, tdDAugG, tdDictZ, tdCallV, tdLc2, ln_4, ln_5, ln_6, fmod_2, fdiv_2, gAddT, tdIdx, gdUnl, tdiD, gSortI, gMin2, gMax2, gTuple, gDictP, tdLcT, lcT, setD, unsetD, tdKGet, tdKGet2, tdGet2, tdPop, tdSeq, tdAsg, tdV, gdName, tdAnd, tdOr, tdNot, tdB, tdOp, tdCB, tdCons, tdNil, tdC, tdAug, tdSl, tdP, tdRet, tdTup, tdIf, tdIfS, gOrd, gI0, gI, gLen, gIx, gAdd, gInt, vw, ixP, gSl, tdDrop, tdRetN, tdNext, gIn_sc, gIn_ts, gIn_ls, gIn_t2, gIn_l2, gIn_l4, tdApp, sl_0, sl_1, sl_2, sl_3, sl_4, sl_5, ff, tt', true_and, id,
  eqS, tdFor, tdiT, tdiL, tdiR, tdXp, gList, gEq_ns, tdJoin, gJoin, vwS, gMul, gMod, gDiv, gPow, gI, tdAugS, gdSub, gSet, ixN_2, ixN_3, atI_3, atI_4, gEq_ss, gEq_ii, tdDict, tdPairs, tdNeg, Option.isNone_none, Option.isNone_some, gIsi, tdGet, tdDPut, tdDAug, tdIsN, tdNotN, DO.dic.injEq, Option.isNone_none, Option.isNone_some, gIn_l2, gIn_t2, Option.getD_some, tdLc, gMax, tdNoP, forR, tdRaise, tdCall, tdNotV, tdAndV, tdOrV, tdBox, tdZ, gdTup, gdCons, gdNil, tdBreak, tdCont, tdYes, icast, icast1, icast2, icast3, tdLst, gIn_l4, icastL, icastE, icastZ, ln_0, ln_1, ln_2, ln_3,
  List.getElem?_cons_zero, List.getElem?_cons_succ, List.set_cons_zero, List.set_cons_succ, Option.some.injEq, exists_eq_left', exists_eq_left, D.bl.injEq, decide_eq_true_eq,
  tdFldC, tdMeth, tdMake, tdPutF, tdAugF, D.ref.injEq, DO.ins.injEq, and_assoc, DL.gSub, D.int.injEq, D.str.injEq, sup_same, eq_self, not_true_eq_false, not_false_eq_true, Bool.false_eq_true, Bool.not_eq_true, decide_not, atIn, atI_0, atI_1, atI_2, List.getElem?_map, Option.map_some, Option.map_none, decide_true, decide_false, Bool.not_true, Bool.not_false, if_true, if_false, lm_0, lm_1, lm_2, List.length_map, exists_and_left, *])
variable {P : Program} {w : World} {K : PySem.W.Frag} {mg : Str → Option Value} {base : Heap}
theorem lcR_map {α : Type} {v : Nat} {te : TD} {ρ : Rho} {Q : List D → Store → Prop} (f g : α → D) : ∀ (L : List α) (acc : List D) (S : Store), (∀ k ∈ L, ∀ Q' : D → Store → Prop, Q' (g k) S → te (ρ.set v (some (f k))) S Q') →
    acc.length + L.length ≤ 100000 → Q (acc ++ L.map g) S → lcR v tdYes te ρ (L.map f) acc S Q
  | [], acc, S, _, _, q => by
    rw [List.map_nil, List.append_nil] at q
    exact q
  | k :: L, acc, S, ht, hl, q => by
    rw [List.length_cons] at hl
    rw [List.map_cons]
    unfold lcR
    show if true = true then (te (ρ.set v (some (f k))) S fun y S2 => acc.length < sizeLine ∧ lcR v tdYes te ρ (L.map f) (acc ++ [y]) S2 Q) else (lcR v tdYes te ρ (L.map f) acc S Q)
    refine iteT (ht k List.mem_cons_self _ ⟨Nat.lt_of_lt_of_le (show acc.length < 100001 by omega) (sz5 (by omega)), ?_⟩)
    refine lcR_map f g L (acc ++ [g k]) S (fun k hk => ht k (List.mem_cons_of_mem _ hk)) (by rw [List.length_append]; show acc.length + 1 + L.length ≤ _; omega) ?_
    rw [List.append_assoc]
    exact q
theorem lcR_fil {α : Type} {v : Nat} {tt : TDT} {te : TD} {ρ : Rho} {Q : List D → Store → Prop} (f g : α → D) (p : α → Bool) : ∀ (L : List α) (acc : List D) (S : Store), (∀ k ∈ L, ∀ Q' : Bool → Store → Prop, Q' (p k) S → tt (ρ.set v (some (f k))) S Q') → (∀ k ∈ L, ∀ Q' : D → Store → Prop, Q' (g k) S → te (ρ.set v (some (f k))) S Q') →
    acc.length + L.length ≤ 100000 → Q (acc ++ (L.filter p).map g) S → lcR v tt te ρ (L.map f) acc S Q
  | [], acc, S, _, _, _, q => by
    rw [List.filter_nil, List.map_nil, List.append_nil] at q
    exact q
  | k :: L, acc, S, hp, ht, hl, q => by
    rw [List.length_cons] at hl
    rw [List.map_cons]
    unfold lcR
    refine hp k List.mem_cons_self _ ?_
    cases e : p k with
    | true =>
      rw [List.filter_cons_of_pos e] at q
      refine iteT (ht k List.mem_cons_self _ ⟨Nat.lt_of_lt_of_le (show acc.length < 100001 by omega) (sz5 (by omega)), ?_⟩)
      refine lcR_fil f g p L (acc ++ [g k]) S (fun k hk => hp k (List.mem_cons_of_mem _ hk)) (fun k hk => ht k (List.mem_cons_of_mem _ hk)) (by rw [List.length_append]; show acc.length + 1 + L.length ≤ _; omega) ?_
      rw [List.append_assoc]
      exact q
    | false =>
      rw [List.filter_cons_of_neg (by rw [e]; simp)] at q
      refine iteF (lcR_fil f g p L acc S (fun k hk => hp k (List.mem_cons_of_mem _ hk)) (fun k hk => ht k (List.mem_cons_of_mem _ hk)) (by omega) q)
theorem lc2_map {α : Type} {v v1 : Nat} {ti1 : TDI} {te : TD} {ρ : Rho} {Q : List D → Store → Prop} (f : α → D) (g : α → List D) (m : Nat) : ∀ (L : List α) (acc : List D) (S : Store),
    (∀ x ∈ L, ∀ (acc' : List D) (Q' : List D → Store → Prop), acc'.length + m ≤ 100000 → Q' (acc' ++ g x) S → ti1 (ρ.set v (some (f x))) S fun es S1 => lcR v1 tdYes te (ρ.set v (some (f x))) es acc' S1 Q') →
    (∀ x ∈ L, (g x).length = m) → acc.length + m * L.length ≤ 100000 → Q (acc ++ L.flatMap g) S → lc2R v v1 ti1 te ρ (L.map f) acc S Q
  | [], acc, S, _, _, _, q => by
    rw [List.flatMap_nil, List.append_nil] at q
    exact q
  | x :: L, acc, S, ht, hg, hl, q => by
    rw [List.length_cons, Nat.mul_succ] at hl
    rw [List.map_cons]
    unfold lc2R
    refine ht x List.mem_cons_self acc _ (by omega) ?_
    refine lc2_map f g m L (acc ++ g x) S (fun k hk => ht k (List.mem_cons_of_mem _ hk)) (fun k hk => hg k (List.mem_cons_of_mem _ hk)) (by rw [List.length_append, hg x List.mem_cons_self]; omega) ?_
    rw [List.append_assoc, ← List.flatMap_cons]
    exact q
theorem rowsB_up {j k : Nat} (h : j ≤ k) (hk : k ≤ 4) : (rowsB j).length ≤ 16 := by
  rw [rowsB_len]
  exact Nat.le_trans (Nat.pow_le_pow_right (by decide) (show j ≤ 4 by omega)) (by decide)
def m_law_all_rows : M := fun ds S Q E => ∃ k : Nat, ds = [nat k] ∧ k ≤ 4 ∧ Q (.lst ((rowsB k).map rowD)) S
theorem d__law_all_rows (Z : Zf P w K mg base) : Ca P w K mg base 1 "_law_all_rows" ["count"] m_law_all_rows := by
  obtain ⟨fd, F, hb⟩ := Z.F__law_all_rows
  refine ⟨_, fd, df_of (k := 0) F sc__law_all_rows (fun cdv A outer s H E F0 E' B => (dss_cons (ds_set 1 nd__law_all_rows (de_lst (da_cons (de_tup da_nil) da_nil)))
    (dss_cons (ds_for (passes_of rfl) rfl (di_rng rfl Z.f_range (da_cons (dv 0) da_nil)) (dg_name 2 nd__law_all_rows) (dss_cons (ds_set 3 nd__law_all_rows (de_lst da_nil))
    (dss_cons (ds_for (passes_of rfl) rfl (di_lst (dv 1)) (dg_name 4 nd__law_all_rows) (dss_one (ds_set 3 nd__law_all_rows (de_op od_addT (dv 3) (de_lst (da_cons (de_op od_addT (dv 4) (de_tup (da_cons de_bl da_nil))) (da_cons (de_op od_addT (dv 4) (de_tup (da_cons de_bl da_nil))) da_nil)))))))
    (dss_one (ds_set 1 nd__law_all_rows (dv 3))))))
    (dss_one (ds_ret (dv 1)))))) ?_, Z.g__law_all_rows, F.kp, hb⟩
  rintro ds S Q E hl ⟨k, rfl, hk, hq⟩
  rw [show startD N__law_all_rows [nat k] = [some (nat k), none, none, none, none] from rfl]
  clear hl
  refine seq_cut (fun ρ S1 => ρ = [some (nat k), some (.lst ((rowsB 0).map rowD)), none, none, none] ∧ S = S1) (fun Rest hR => ?_) ?_
  · have hR := hR _ _ ⟨rfl, rfl⟩
    walk_at "nd"
    exact hR
  rintro ρ S1 ⟨rfl, rfl⟩
  refine seq_cut (fun ρ S1 => ∃ x2 x3 x4, ρ = [some (nat k), some (.lst ((rowsB k).map rowD)), x2, x3, x4] ∧ S = S1) (fun Rest hR => ?_) ?_
  · clear hq
    walk_at "nd"
    refine ⟨by omega, by omega, ?_⟩
    rw [rng_nat]
    refine for_ind (fun ds ρ S' => ∃ (j m : Nat) (x2 x3 x4 : Option D), ds = (List.range' j m).map nat ∧ j + m = k ∧ ρ = [some (nat k), some (.lst ((rowsB j).map rowD)), x2, x3, x4] ∧ S = S') ?_ ?_ _ _ _ ⟨0, k, none, none, none, rfl, by omega, rfl, rfl⟩
    · rintro ρ S' ⟨j, m, x2, x3, x4, e1, e2, rfl, rfl⟩
      have hm : m = 0 := by
        cases m with
        | zero => rfl
        | succ m => rw [List.range'_succ] at e1; cases e1
      obtain rfl : j = k := by omega
      exact hR _ _ ⟨_, _, _, rfl, rfl⟩
    · rintro d ds ρ S' W hW ⟨j, m, x2, x3, x4, e1, e2, rfl, rfl⟩
      cases m with
      | zero => cases e1
      | succ m =>
        rw [List.range'_succ, List.map_cons] at e1
        injection e1 with e1 e5
        subst e1 e5
        clear hR
        have hn := rowsB_up (j := j + 1) (k := k) (by omega) hk
        show tdSeq _ _ _ [some (nat k), some (.lst ((rowsB j).map rowD)), some (nat j), x3, x4] _
        refine seq_cut (fun ρ S1 => ρ = [some (nat k), some (.lst ((rowsB j).map rowD)), some (nat j), some (.lst []), x4] ∧ S = S1) (fun Rest hR => ?_) ?_
        · have hR := hR _ _ ⟨rfl, rfl⟩
          clear hW
          walk_at "nd"
        rintro ρ S1 ⟨rfl, rfl⟩
        refine seq_cut (fun ρ S1 => ∃ x4, ρ = [some (nat k), some (.lst ((rowsB j).map rowD)), some (nat j), some (.lst ((rowsB (j + 1)).map rowD)), x4] ∧ S = S1) (fun Rest hR => ?_) ?_
        · clear hW
          walk_at "nd"
          refine for_ind (fun ds ρ S' => ∃ (l acc : List (List Bool)) (x4 : Option D), ds = l.map rowD ∧ (∀ r ∈ l, r ∈ rowsB j) ∧ acc ++ l.flatMap (fun r => [r ++ [false], r ++ [true]]) = rowsB (j + 1) ∧ ρ = [some (nat k), some (.lst ((rowsB j).map rowD)), some (nat j), some (.lst (acc.map rowD)), x4] ∧ S = S') ?_ ?_ _ _ _ ⟨rowsB j, [], x4, rfl, fun r h => h, rfl, rfl, rfl⟩
          · rintro ρ S' ⟨l, acc, x4, e1, _, e2, rfl, rfl⟩
            have : l = [] := by
              cases l with
              | nil => rfl
              | cons _ _ => cases e1
            subst this
            rw [List.flatMap_nil, List.append_nil] at e2
            rw [e2]
            exact hR _ _ ⟨_, rfl, rfl⟩
          · rintro d ds ρ S' W hW ⟨l, acc, x4, e1, el, e2, rfl, rfl⟩
            cases l with
            | nil => cases e1
            | cons r l =>
              injection e1 with e1 e5
              subst e1 e5
              have h3 := congrArg List.length e2
              rw [List.flatMap_cons, List.length_append, List.length_append] at h3
              replace h3 : acc.length + (2 + (l.flatMap (fun r => [r ++ [false], r ++ [true]])).length) = (rowsB (j + 1)).length := h3
              have hrl : r.length ≤ 4 := by
                have := (mem_rowsB j r).mp (el r List.mem_cons_self)
                omega
              replace hW := hW [some (nat k), some (.lst ((rowsB j).map rowD)), some (nat j), some (.lst ((acc ++ [r ++ [false], r ++ [true]]).map rowD)), some (rowD r)] S ⟨l, acc ++ [r ++ [false], r ++ [true]], _, rfl, fun u hu => el u (List.mem_cons_of_mem _ hu), by rw [List.append_assoc, ← List.flatMap_cons (f := fun r : List Bool => [r ++ [false], r ++ [true]])]; exact e2, rfl, rfl⟩
              clear hR e2
              unfold rowD at hW ⊢
              clear el hn
              have hrb : (bD r).length ≤ 4 := by unfold bD; rw [List.length_map]; exact hrl
              generalize (rowsB j).map (fun r => D.tup (bD r)) = rj at *
              rw [List.map_append] at hW
              have hal : (acc.map fun r => D.tup (bD r)).length ≤ 16 := by rw [List.length_map]; have := rowsB_up (j := j + 1) (k := k) (by omega) hk; omega
              clear h3
              generalize (acc.map fun r => D.tup (bD r)) = ad at *
              walk_at "nd"
              refine ⟨sz5 (show r.length + 1 ≤ 1000000 by omega), sz5 (show r.length + 1 ≤ 1000000 by omega), sz5 (show ad.length + 2 ≤ 1000000 by omega), ?_⟩
              have e1 : [r ++ [false], r ++ [true]].map (fun r => D.tup (bD r)) = [D.tup (bD r ++ [D.bl false]), D.tup (bD r ++ [D.bl true])] := by
                unfold bD
                rw [List.map_cons, List.map_cons, List.map_append, List.map_append]
                rfl
              rw [← e1]
              exact hW
        rintro ρ S1 ⟨x4, rfl, rfl⟩
        exact ⟨_, rfl, hW _ _ ⟨j + 1, m, some (nat j), _, x4, rfl, by omega, rfl, rfl⟩⟩
  rintro ρ S1 ⟨x2, x3, x4, rfl, rfl⟩
  walk_at "nd"
  exact fini hq
end K06
namespace K06
open PySem PySem.Spec L2 DL
local macro_rules | `(tactic| walk_at "nd") => `(tactic| simp only [icO, isN0, gCatB, gEq_bb, tdLcB, tdDNew, tdNNew, tdNGet, tdNPut, tdFGet, tdiF, tdDctF, tdDc, tdDcN, tdTru, tdDAugG, tdDictZ, tdCallV, tdLc2, ln_4, ln_5, ln_6, fmod_2, fdiv_2, gAddT, tdIdx, gdUnl, tdiD, gSortI, gMin2, gMax2, gTuple, gDictP, tdLcT, lcT, setD, unsetD, tdKGet, tdKGet2, tdGet2, tdPop, tdSeq, tdAsg, tdV, gdName, tdAnd, tdOr, tdNot, tdB, tdOp, tdCB, tdCons, tdNil, tdC, tdAug, tdSl, tdP, tdRet, tdTup, tdIf, tdIfS, gOrd, gI0, gI, gLen, gIx, gAdd, gInt, vw, ixP, gSl, tdDrop, tdRetN, tdNext, gIn_sc, gIn_ts, gIn_ls, gIn_t2, gIn_l2, gIn_l4, tdApp, sl_0, sl_1, sl_2, sl_3, sl_4, sl_5, ff, tt', true_and, id,
  eqS, tdFor, tdiT, tdiL, tdiR, tdXp, gList, gEq_ns, tdJoin, gJoin, vwS, gMul, gMod, gDiv, gPow, gI, tdAugS, gdSub, gSet, ixN_2, ixN_3, atI_3, atI_4, gEq_ss, gEq_ii, tdDict, tdPairs, tdNeg, Option.isNone_none, Option.isNone_some, gIsi, tdGet, tdDPut, tdDAug, tdIsN, tdNotN, DO.dic.injEq, Option.isNone_none, Option.isNone_some, gIn_l2, gIn_t2, Option.getD_some, tdLc, gMax, tdNoP, forR, tdRaise, tdCall, tdNotV, tdAndV, tdOrV, tdBox, tdZ, gdTup, gdCons, gdNil, tdBreak, tdCont, tdYes, icast, icast1, icast2, icast3, tdLst, gIn_l4, icastL, icastE, icastZ, ln_0, ln_1, ln_2, ln_3,
  List.getElem?_cons_zero, List.getElem?_cons_succ, List.set_cons_zero, List.set_cons_succ, Option.some.injEq, exists_eq_left', exists_eq_left, D.bl.injEq, decide_eq_true_eq,
  tdFldC, tdMeth, tdMake, tdPutF, tdAugF, D.ref.injEq, DO.ins.injEq, and_assoc, DL.gSub, D.int.injEq, D.str.injEq, sup_same, eq_self, not_true_eq_false, not_false_eq_true, Bool.false_eq_true, Bool.not_eq_true, decide_not, atIn, atI_0, atI_1, atI_2, List.getElem?_map, Option.map_some, Option.map_none, decide_true, decide_false, Bool.not_true, Bool.not_false, if_true, if_false, lm_0, lm_1, lm_2, List.length_map, exists_and_left, *])
variable {P : Program} {w : World} {K : PySem.W.Frag} {mg : Str → Option Value} {base : Heap}
theorem lit_call {S : Store} {f : List Bool} {x : D} {l i m : Nat} {ρ : Rho} {Q : D → Store → Prop} {E : XD} (h3 : ρ[m]? = some (some x)) (hi : ρ[i]? = some (some (nat l))) (hs : vw S x = .lst (bD f)) (hl : l / 2 < f.length) (q : Q (.bl (lv f l)) S) :
    tdCall m_literal_value 2 E (tdCons (tdV m) (tdCons (tdV i) tdNil)) ρ S Q :=
  ⟨_, h3, _, hi, rfl, x, f, l, rfl, hs, hl, q⟩
theorem and_call {S : Store} {f : List Bool} {x : D} {l1 l2 j m : Nat} {ρ : Rho} {Q : D → Store → Prop} {E : XD} (h3 : ρ[m]? = some (some x)) (hj : ρ[j]? = some (some (nat l2))) (hs : vw S x = .lst (bD f)) (h2 : l2 / 2 < f.length) (q : Q (.bl (lv f l1 && lv f l2)) S) :
    if lv f l1 = true then tdCall m_literal_value 2 E (tdCons (tdV m) (tdCons (tdV j) tdNil)) ρ S Q else Q (.bl false) S := by
  cases h : lv f l1 with
  | true =>
    rw [h, Bool.true_and] at q
    exact iteT (lit_call h3 hj hs h2 q)
  | false =>
    rw [h, Bool.false_and] at q
    exact iteF q
def m_values_of : M := fun ds S Q E => ∃ (n : Net) (row : List Bool), ds = [n.d, .tup (bD row), .non] ∧ n.ok ∧ row.length + 1 = n.start ∧ Q (.lst (bD (n.vals row))) S
theorem d_values_of (Z : Zf P w K mg base) : CaV P w K mg base 2 "values_of" ["net", "row", "stuck"] [.non] m_values_of := by
  obtain ⟨fd, F, dvs, hv, hb⟩ := Z.F_values_of
  refine ⟨_, fd, _, dvs, df_ofV (k := 1) F sc_values_of (fun cdv A outer s H E F0 E' B => (dss_cons (ds_set 3 nd_values_of (de_op od_catB (de_lst (da_cons de_bl da_nil)) (de_cT oc_list rfl Z.f_list bb_list (da_cons (dv 1) da_nil))))
    (dss_cons (ds_for (passes_of rfl) rfl (di_rng rfl Z.f_range (da_cons (de_op od_addT (de_cB oc_len rfl Z.f_len bb_len (da_cons (dv 3) da_nil)) (de_cB oc_len rfl Z.f_len bb_len (da_cons (de_ix (dv 0) de_int) da_nil))) da_nil)) (dg_name 4 nd_values_of) (dss_cons (ds_if (dt_cmp (od_ord op_ge) (dv 4) (de_cB oc_len rfl Z.f_len bb_len (da_cons (dv 3) da_nil)) rfl) (dss_cons (ds_asg (de_ix (de_ix (dv 0) de_int) (de_op od_sub (de_op od_sub (dv 4) (de_cB oc_len rfl Z.f_len bb_len (da_cons (dv 1) da_nil))) de_int)) (dg_tup (n := 2) rfl (dgs_cons (dg_name 5 nd_values_of) (dgs_cons (dg_name 6 nd_values_of) dgs_nil))))
    (dss_one (ds_expr (de_app (dv 3) (de_and (de_ca (d_literal_value Z) (B.mono (by omega)) rfl (da_cons (dv 3) (da_cons (dv 5) da_nil))) (de_one (de_ca (d_literal_value Z) (B.mono (by omega)) rfl (da_cons (dv 3) (da_cons (dv 6) da_nil))))))))) dss_nil)
    (dss_one (ds_if (PW.pt (dw_and (dt_notN (dv 2)) (dw_and1 (dt_cmp (od_eq B.units) (de_ix (dv 2) de_int) (dv 4) rfl)))) (dss_one (ds_asg (de_ix (dv 2) de_int) (dg_sub (dv 3) (dv 4)))) dss_nil))))
    (dss_one (ds_ret (dz 3)))))) ?_, Z.g_values_of, F.kp, hb, hv, fun F => .cons .non_i .nil⟩
  rintro ds S Q E hl ⟨n, row, rfl, hn, hr, hq⟩
  rw [show startD N_values_of [n.d, .tup (bD row), .non] = [some n.d, some (.tup (bD row)), some .non, none, none, none, none] from rfl]
  clear hl
  have hrl : row.length ≤ 10 := by have := hn.i2; have := hn.f2; have : n.start = 1 + n.ni + n.fs.length := rfl; omega
  have hgl := hn.g1
  have hgg : ∀ (k : Nat) (p : Nat × Nat), n.gs[k]? = some p → p.1 < 2 * (row.length + 1 + k) ∧ p.2 < 2 * (row.length + 1 + k) := by rw [hr]; exact hn.g2
  clear hr
  have hnd : n.d = .tup [.tup (n.ins.map D.str), .tup (List.zipWith (fun x b => .tup [.str x, .bl b]) rgN n.fs), .tup (n.gs.map DL.prD), .tup (List.zipWith (fun x l => .tup [.str x, nat l]) ouN n.os), .tup (n.ns.map nat)] := rfl
  generalize D.tup (n.ins.map D.str) = c0 at hnd
  generalize D.tup (List.zipWith (fun x b => D.tup [.str x, .bl b]) rgN n.fs) = c1 at hnd
  generalize D.tup (List.zipWith (fun x l => D.tup [.str x, nat l]) ouN n.os) = c3 at hnd
  generalize D.tup (n.ns.map nat) = c4 at hnd
  rw [hnd]
  clear hnd
  refine seq_cut (fun ρ S1 => ∃ p, S p = none ∧ ρ = [some (.tup [c0, c1, .tup (n.gs.map DL.prD), c3, c4]), some (.tup (bD row)), some .non, some (.ref p), none, none, none] ∧ S1 = sup S p (.lst (bD (n.part row 0)))) (fun Rest hR => ?_) ?_
  · clear hq hn
    walk_at "nd"
    exact ⟨sz5 (show 0 + 1 + row.length ≤ 1000000 by omega), fun p hp => hR _ _ ⟨p, hp, rfl, by rw [show n.part row 0 = false :: row by unfold Net.part; rw [Nat.zero_sub, List.take_zero]; rfl]; rfl⟩⟩
  rintro ρ S1 ⟨p, hp, rfl, rfl⟩
  refine seq_cut (fun ρ S2 => ∃ x4 x5 x6, ρ = [some (.tup [c0, c1, .tup (n.gs.map DL.prD), c3, c4]), some (.tup (bD row)), some .non, some (.ref p), x4, x5, x6] ∧ S2 = sup S p (.lst (bD (n.vals row)))) (fun Rest hR => ?_) ?_
  · clear hq
    have hpl0 : (n.part row 0).length = 1 + row.length := by rw [part_len n row (by omega)]; omega
    walk_at "nd"
    refine ⟨by omega, by omega, ?_⟩
    rw [rng_nat]
    clear hpl0
    refine for_ind (fun ds ρ S' => ∃ (j m : Nat) (x4 x5 x6 : Option D), ds = (List.range' j m).map nat ∧ j + m = 1 + row.length + n.gs.length ∧
      ρ = [some (.tup [c0, c1, .tup (n.gs.map DL.prD), c3, c4]), some (.tup (bD row)), some .non, some (.ref p), x4, x5, x6] ∧ S' = sup S p (.lst (bD (n.part row j)))) ?_ ?_ _ _ _
      ⟨0, 1 + row.length + n.gs.length, none, none, none, rfl, by omega, rfl, rfl⟩
    · rintro ρ S' ⟨j, m, x4, x5, x6, e1, e2, rfl, rfl⟩
      have hm : m = 0 := by
        cases m with
        | zero => rfl
        | succ m => rw [List.range'_succ] at e1; cases e1
      have hj : j = 1 + row.length + n.gs.length := by omega
      subst hj
      rw [part_all]
      exact hR _ _ ⟨x4, x5, x6, rfl, rfl⟩
    · rintro d ds ρ S' W hW ⟨j, m, x4, x5, x6, e1, e2, rfl, rfl⟩
      cases m with
      | zero => cases e1
      | succ m =>
        rw [List.range'_succ, List.map_cons] at e1
        injection e1 with e1 e5
        subst e1 e5
        clear hR
        show tdSeq _ _ _ [some (.tup [c0, c1, .tup (n.gs.map DL.prD), c3, c4]), some (.tup (bD row)), some .non, some (.ref p), some (nat j), x5, x6] _
        refine seq_cut (fun ρ S1 => ∃ x5 x6, ρ = [some (.tup [c0, c1, .tup (n.gs.map DL.prD), c3, c4]), some (.tup (bD row)), some .non, some (.ref p), some (nat j), x5, x6] ∧ S1 = sup S p (.lst (bD (n.part row (j + 1))))) (fun Rest2 hR2 => ?_) ?_
        · clear hW
          have hpl := part_len n row (j := j) (by omega)
          refine ifS_cut (decide (row.length + 1 ≤ j)) (fun Q' q => ?_) (fun hb3 => ?_) (fun hb3 => ?_)
          · have e0 : decide (row.length + 1 ≤ j) = decide ((((n.part row j).length : Nat) : Int) ≤ (j : Int)) := by
              by_cases h : row.length + 1 ≤ j
              · rw [decide_eq_true h, decide_eq_true (by omega)]
              · rw [decide_eq_false h, decide_eq_false (by omega)]
            rw [e0] at q
            clear hpl e0 hR2
            walk_at "nd"
          · have hj := of_decide_eq_true hb3
            obtain ⟨pp, hpp⟩ : ∃ pp, n.gs[j - (row.length + 1)]? = some pp := ⟨_, List.getElem?_eq_getElem (show j - (row.length + 1) < n.gs.length by omega)⟩
            have hg2 := hgg _ _ hpp
            have hlen : (n.part row j).length = j := by omega
            have hup := part_up n row hj hpp
            have e0 : (j : Int) - ((row.length : Nat) : Int) - 1 = ((j - (row.length + 1) : Nat) : Int) := by omega
            refine seq_cut (fun ρ S1 => ρ = [some (.tup [c0, c1, .tup (n.gs.map DL.prD), c3, c4]), some (.tup (bD row)), some .non, some (.ref p), some (nat j), some (nat pp.1), some (nat pp.2)] ∧ S1 = sup S p (.lst (bD (n.part row j)))) (fun Rest3 hR3 => ?_) ?_
            · clear hR2 hup hlen hpl hg2 hgg hn
              walk_at "nd"
              exact ⟨_, rfl, rfl, _, _, rfl, _, _, rfl, rfl, hR3 _ _ ⟨rfl, rfl⟩⟩
            rintro ρ S1 ⟨rfl, rfl⟩
            refine ⟨.ref p, rfl, ⟨_, _, rfl, sup_same⟩, ?_⟩
            refine lit_call (l := pp.1) (x := .ref p) (f := n.part row j) rfl rfl (by rw [vw_ref sup_same]) (by omega) ⟨_, rfl, ?_⟩
            refine and_call (f := n.part row j) (l1 := pp.1) (l2 := pp.2) rfl rfl (by rw [vw_ref sup_same]) (by omega) ?_
            refine ⟨p, _, rfl, sup_same, by rw [List.length_map, hlen]; exact Nat.lt_of_lt_of_le (show j < 1000 by omega) (sz5 (by omega)), hR2 _ _ ⟨_, _, rfl, ?_⟩⟩
            rw [sup_sup, hup]
            unfold bD
            rw [List.map_append]
            rfl
          · have hj := of_decide_eq_false hb3
            rw [part_low n row (by omega)] at hR2
            exact hR2 _ _ ⟨_, _, rfl, rfl⟩
        rintro ρ S1 ⟨x5, x6, rfl, rfl⟩
        clear hn
        have hout := hW _ _ ⟨j + 1, m, some (nat j), x5, x6, rfl, by omega, rfl, rfl⟩
        clear hW
        walk_at "nd"
  rintro ρ S2 ⟨x4, x5, x6, rfl, rfl⟩
  clear hn
  refine ⟨p, _, rfl, sup_same, ?_⟩
  rw [sdel_sup hp]
  exact fini hq
end K06
namespace K06
open PySem PySem.Spec L2 DL
local macro_rules | `(tactic| walk_at "nd") => `(tactic| simp only [icO, isN0, gCatB, gEq_bb, tdLcB, tdDNew, tdNNew, tdNGet, tdNPut, tdFGet, tdiF, tdDctF, tdDc, tdDcN, tdTru, tdDAugG, tdDictZ, tdCallV, tdLc2, ln_4, ln_5, ln_6, fmod_2, fdiv_2, gAddT, tdIdx, gdUnl, tdiD, gSortI, gMin2, gMax2, gTuple, gDictP, tdLcT, lcT, setD, unsetD, tdKGet, tdKGet2, tdGet2, tdPop, tdSeq, tdAsg, tdV, gdName, tdAnd, tdOr, tdNot, tdB, tdOp, tdCB, tdCons, tdNil, tdC, tdAug, tdSl, tdP, tdRet, tdTup, tdIf, tdIfS, gOrd, gI0, gI, gLen, gIx, gAdd, gInt, vw, ixP, gSl, tdDrop, tdRetN, tdNext, gIn_sc, gIn_ts, gIn_ls, gIn_t2, gIn_l2, gIn_l4, tdApp, sl_0, sl_1, sl_2, sl_3, sl_4, sl_5, ff, tt', true_and, id,
  eqS, tdFor, tdiT, tdiL, tdiR, tdXp, gList, gEq_ns, tdJoin, gJoin, vwS, gMul, gMod, gDiv, gPow, gI, tdAugS, gdSub, gSet, ixN_2, ixN_3, atI_3, atI_4, gEq_ss, gEq_ii, tdDict, tdPairs, tdNeg, Option.isNone_none, Option.isNone_some, gIsi, tdGet, tdDPut, tdDAug, tdIsN, tdNotN, DO.dic.injEq, Option.isNone_none, Option.isNone_some, gIn_l2, gIn_t2, Option.getD_some, tdLc, gMax, tdNoP, forR, tdRaise, tdCall, tdNotV, tdAndV, tdOrV, tdBox, tdZ, gdTup, gdCons, gdNil, tdBreak, tdCont, tdYes, icast, icast1, icast2, icast3, tdLst, gIn_l4, icastL, icastE, icastZ, ln_0, ln_1, ln_2, ln_3,
  List.getElem?_cons_zero, List.getElem?_cons_succ, List.set_cons_zero, List.set_cons_succ, Option.some.injEq, exists_eq_left', exists_eq_left, D.bl.injEq, decide_eq_true_eq,
  tdFldC, tdMeth, tdMake, tdPutF, tdAugF, D.ref.injEq, DO.ins.injEq, and_assoc, DL.gSub, D.int.injEq, D.str.injEq, sup_same, eq_self, not_true_eq_false, not_false_eq_true, Bool.false_eq_true, Bool.not_eq_true, decide_not, atIn, atI_0, atI_1, atI_2, List.getElem?_map, Option.map_some, Option.map_none, decide_true, decide_false, Bool.not_true, Bool.not_false, if_true, if_false, lm_0, lm_1, lm_2, List.length_map, exists_and_left, *])
variable {P : Program} {w : World} {K : PySem.W.Frag} {mg : Str → Option Value} {base : Heap}
def m_ends_of : M := fun ds S Q E => ∃ n : Net, ds = [n.d] ∧ n.ok ∧ Q (.lst ((n.os ++ n.ns).map nat)) S
theorem d_ends_of (Z : Zf P w K mg base) : Ca P w K mg base 1 "ends_of" ["net"] m_ends_of := by
  obtain ⟨fd, F, hb⟩ := Z.F_ends_of
  refine ⟨_, fd, df_of (k := 0) F sc_ends_of (fun cdv A outer s H E F0 E' B => (dss_one (ds_ret (de_op od_addT (de_lcT [1, 2] rfl rfl nd_ends_of (di_tup (de_ix (dv 0) de_int)) (blkOk_by (own := [("_", 1), ("literal", 2)]) (N := N_ends_of) (sc := defScope st_ends_of) (by decide +kernel)) (fun _ _ _ _ _ => pg_tup rfl (pgs_cons (pg_name (i := 1) nd_ends_of rfl (Or.inl rfl)) (pgs_cons (pg_name (i := 2) nd_ends_of rfl (Or.inl rfl)) pgs_nil))) (fun _ _ _ _ _ => dts_nil) (fun _ _ _ _ _ => (dv 2))) (de_cT oc_list rfl Z.f_list bb_list (da_cons (de_ix (dv 0) de_int) da_nil)))))) ?_, Z.g_ends_of, F.kp, hb⟩
  rintro ds S Q E hl ⟨n, rfl, hn, hq⟩
  rw [show startD N_ends_of [n.d] = [some n.d, none, none] from rfl, Net.d_eq]
  have hol : n.os.length ≤ ouN.length := by have := hn.o2; show _ ≤ 6; omega
  have ho2 := hn.o2
  have hnl : n.ns.length ≤ 4 := by have := hn.n1; have := hn.f2; omega
  refine ⟨_, rfl, _, rfl, ?_⟩
  show lcT [1, 2] _ _ _ ((ouN.zip n.os).map fun p => D.tup [.str p.1, nat p.2]) [] _ _
  refine lcT_m (fun p : Tx × Nat => nat p.2) (fun p => [D.str p.1, nat p.2]) (fun _ => rfl) _ _ _ (fun p hp Q' q => ⟨_, rfl, q⟩) ?_ ?_
  · rw [List.length_zip]; show 0 + min 6 _ ≤ _; omega
  · have e : [] ++ (ouN.zip n.os).map (fun p => nat p.2) = n.os.map nat := by
      have := zip_snd ouN n.os hol
      rw [List.nil_append]
      conv => rhs; rw [← this, List.map_map]
      rfl
    rw [e]
    rw [List.map_append] at hq
    have hq := fini hq
    generalize D.tup (n.ins.map D.str) = c0
    generalize D.tup n.rgD = c1
    generalize D.tup (n.gs.map DL.prD) = c2
    generalize D.tup n.ouD = c3
    walk_at "nd"
    exact ⟨sz5 (show n.os.length + n.ns.length ≤ 1000000 by omega), trivial⟩
def m_value_rows : M := fun ds S Q E => ∃ k : Nat, ds = [nat k] ∧ k ≤ 4 ∧ Q (.lst ((rowsB k).map rowD)) S
theorem d_value_rows (Z : Zf P w K mg base) : Ca P w K mg base 1 "value_rows" ["count"] m_value_rows := by
  obtain ⟨fd, F, hb⟩ := Z.F_value_rows
  refine ⟨_, fd, df_of (k := 0) F sc_value_rows (fun cdv A outer s H E F0 E' B => (dss_cons (ds_set 1 nd_value_rows (de_lst (da_cons (de_tup da_nil) da_nil)))
    (dss_cons (ds_for (passes_of rfl) rfl (di_rng rfl Z.f_range (da_cons (dv 0) da_nil)) (dg_name 2 nd_value_rows) (dss_one (ds_setLc2 1 rfl nd_value_rows rfl rfl (sw_true rfl rfl rfl (by decide +kernel)) (di_lst (dv 1)) (blkOk_by (own := [("row", 3), ("value", 4)]) (N := N_value_rows) (sc := defScope st_value_rows) (by decide +kernel)) (fun _ _ _ _ _ => pg_name (i := 3) nd_value_rows rfl (Or.inl rfl)) (fun _ _ _ _ _ => (di_tup (de_tup (da_cons de_bl (da_cons de_bl da_nil))))) (fun _ _ _ _ _ => pg_name (i := 4) nd_value_rows rfl (Or.inl rfl)) (fun _ _ _ _ _ => (de_op od_addT (dv 3) (de_tup (da_cons (dv 4) da_nil)))))))
    (dss_one (ds_ret (dv 1)))))) ?_, Z.g_value_rows, F.kp, hb⟩
  rintro ds S Q E hl ⟨k, rfl, hk, hq⟩
  rw [show startD N_value_rows [nat k] = [some (nat k), none, none, none, none] from rfl]
  clear hl
  refine seq_cut (fun ρ S1 => ρ = [some (nat k), some (.lst ((rowsB 0).map rowD)), none, none, none] ∧ S = S1) (fun Rest hR => ?_) ?_
  · have hR := hR _ _ ⟨rfl, rfl⟩
    walk_at "nd"
    exact hR
  rintro ρ S1 ⟨rfl, rfl⟩
  refine seq_cut (fun ρ S1 => ∃ x2, ρ = [some (nat k), some (.lst ((rowsB k).map rowD)), x2, none, none] ∧ S = S1) (fun Rest hR => ?_) ?_
  · clear hq
    walk_at "nd"
    refine ⟨by omega, by omega, ?_⟩
    rw [rng_nat]
    refine for_ind (fun ds ρ S' => ∃ (j m : Nat) (x2 : Option D), ds = (List.range' j m).map nat ∧ j + m = k ∧ ρ = [some (nat k), some (.lst ((rowsB j).map rowD)), x2, none, none] ∧ S = S') ?_ ?_ _ _ _ ⟨0, k, none, rfl, by omega, rfl, rfl⟩
    · rintro ρ S' ⟨j, m, x2, e1, e2, rfl, rfl⟩
      have hm : m = 0 := by
        cases m with
        | zero => rfl
        | succ m => rw [List.range'_succ] at e1; cases e1
      obtain rfl : j = k := by omega
      exact hR _ _ ⟨_, rfl, rfl⟩
    · rintro d ds ρ S' W hW ⟨j, m, x2, e1, e2, rfl, rfl⟩
      cases m with
      | zero => cases e1
      | succ m =>
        rw [List.range'_succ, List.map_cons] at e1
        injection e1 with e1 e5
        subst e1 e5
        clear hR
        have hn := rowsB_up (j := j) (k := k) (by omega) hk
        have hW := hW [some (nat k), some (.lst ((rowsB (j + 1)).map rowD)), some (nat j), none, none] _ ⟨j + 1, m, some (nat j), rfl, by omega, rfl, rfl⟩
        refine ⟨_, rfl, ?_⟩
        show lc2R 3 4 _ _ [some (nat k), some (.lst ((rowsB j).map rowD)), some (nat j), none, none] ((rowsB j).map rowD) [] S _
        refine lc2_map rowD (fun r => [rowD (r ++ [false]), rowD (r ++ [true])]) 2 (rowsB j) [] S (fun r hr acc' Q' ha q => ?_) (fun r hr => rfl) (by show 0 + _ ≤ _; omega) ?_
        · have hrl : r.length ≤ 4 := by
            have := (mem_rowsB j r).mp hr
            omega
          have hrb : (bD r).length ≤ 4 := by unfold bD; rw [List.length_map]; exact hrl
          refine ⟨sz5 (show 2 ≤ 1000000 by decide), ?_⟩
          show lcR 4 _ _ [some (nat k), some (.lst ((rowsB j).map rowD)), some (nat j), some (rowD r), none] (([false, true]).map D.bl) acc' S Q'
          refine lcR_map D.bl (fun b => rowD (r ++ [b])) [false, true] acc' S (fun b hb Q2 q2 => ?_) (by show _ + 2 ≤ _; omega) q
          have e : rowD (r ++ [b]) = D.tup (bD r ++ [D.bl b]) := by unfold rowD bD; rw [List.map_append]; rfl
          rw [e] at q2
          clear q hW hr hb e
          unfold rowD
          generalize (rowsB j).map (fun r => D.tup (bD r)) = rj
          walk_at "nd"
          exact ⟨sz5 (show r.length + 1 ≤ 1000000 by omega), trivial⟩
        · have e : [] ++ (rowsB j).flatMap (fun r => [rowD (r ++ [false]), rowD (r ++ [true])]) = (rowsB (j + 1)).map rowD := by
            show _ = ((rowsB j).flatMap fun r => [r ++ [false], r ++ [true]]).map rowD
            rw [List.nil_append, List.map_flatMap]
            rfl
          rw [e]
          exact hW
  rintro ρ S1 ⟨x2, rfl, rfl⟩
  exact ⟨_, rfl, fini hq⟩
def m_clock : M := fun ds S Q E => ∃ (n : Net) (st inp : List Bool), ds = [n.d, rowD st, rowD inp] ∧ n.ok ∧ st.length = n.fs.length ∧ inp.length = n.ni ∧ Q (.tup [rowD (n.out st inp), rowD (n.nxt st inp)]) S
theorem d_clock (Z : Zf P w K mg base) : Ca P w K mg base 3 "clock" ["net", "state", "inputs"] m_clock := by
  obtain ⟨fd, F, hb⟩ := Z.F_clock
  refine ⟨_, fd, df_of (k := 2) F sc_clock (fun cdv A outer s H E F0 E' B => (dss_cons (ds_set 3 nd_clock (de_caV (d_values_of Z) (B.mono (by omega)) rfl (da_cons (dv 0) (da_cons (de_op od_addT (dv 2) (dv 1)) da_nil))))
    (dss_cons (ds_set 4 nd_clock (de_cT oc_tuple rfl Z.f_tuple bb_tuple (da_cons (de_lc rfl nd_clock (di_lst (de_ca (d_ends_of Z) (B.mono (by omega)) rfl (da_cons (dv 0) da_nil))) (blkOk_by (own := [("literal", 5)]) (N := N_clock) (sc := defScope st_clock) (by decide +kernel)) (fun _ _ _ _ _ => pg_name (i := 5) nd_clock rfl (Or.inl rfl)) (fun _ _ _ _ _ => dts_nil) (fun _ _ _ _ _ => (de_ca (d_literal_value Z) (B.blk.mono (by omega)) rfl (da_cons (dv 3) (da_cons (dv 5) da_nil))))) da_nil)))
    (dss_one (ds_ret (de_tup (da_cons (de_sl (dv 4) do_none (do_some (de_cB oc_len rfl Z.f_len bb_len (da_cons (de_ix (dv 0) de_int) da_nil)))) (da_cons (de_sl (dv 4) (do_some (de_cB oc_len rfl Z.f_len bb_len (da_cons (de_ix (dv 0) de_int) da_nil))) do_none) da_nil)))))))) ?_, Z.g_clock, F.kp, hb⟩
  rintro ds S Q E hl ⟨n, st, inp, rfl, hn, h1, h2, hq⟩
  rw [show startD N_clock [n.d, rowD st, rowD inp] = [some n.d, some (rowD st), some (rowD inp), none, none, none] from rfl]
  clear hl
  have hr : (inp ++ st).length + 1 = n.start := by rw [List.length_append]; unfold Net.start; omega
  have hlo : ∀ l, l ∈ n.os → l / 2 < (n.vals (inp ++ st)).length := fun l h => hn.lits hr (.inl h)
  have hln : ∀ l, l ∈ n.ns → l / 2 < (n.vals (inp ++ st)).length := fun l h => hn.lits hr (.inr h)
  have ho3 := hn.o3
  have ho2 := hn.o2
  have hnl : n.ns.length ≤ 4 := by have := hn.n1; have := hn.f2; omega
  have hiz : (bD inp).length + (bD st).length ≤ 100 := by
    unfold bD
    rw [List.length_map, List.length_map]
    have := hn.i2; have := hn.f2; omega
  refine seq_cut (fun ρ S1 => ρ = [some n.d, some (rowD st), some (rowD inp), some (.lst (bD (n.vals (inp ++ st)))), none, none] ∧ S = S1) (fun Rest hR => ?_) ?_
  · have hR := hR _ _ ⟨rfl, rfl⟩
    have e := rowD_app inp st
    unfold rowD at e hR ⊢
    clear hq
    walk_at "nd"
    exact ⟨sz5 (show n.ni + n.fs.length ≤ 1000000 by have := hn.i2; have := hn.f2; omega), rfl, n, inp ++ st, rfl, hn, hr, hR⟩
  rintro ρ S1 ⟨rfl, rfl⟩
  have hout : n.out st inp = n.os.map (lv (n.vals (inp ++ st))) := rfl
  have hnxt : n.nxt st inp = n.ns.map (lv (n.vals (inp ++ st))) := rfl
  rw [hout, hnxt] at hq
  generalize hvals : n.vals (inp ++ st) = vals at *
  refine seq_cut (fun ρ S2 => ρ = [some n.d, some (rowD st), some (rowD inp), some (.lst (bD vals)), some (rowD ((n.os ++ n.ns).map (lv vals))), none] ∧ S = S2) (fun Rest hR => ?_) ?_
  · have hR := hR _ _ ⟨rfl, rfl⟩
    refine ⟨_, rfl, rfl, n, rfl, hn, ?_⟩
    show lcR 5 _ _ _ ((n.os ++ n.ns).map nat) [] _ _
    refine lcR_n (fun l => D.bl (lv vals l)) (n.os ++ n.ns) [] _ (fun l hl Q' q => lit_call (l := l) rfl rfl rfl ((List.mem_append.mp hl).elim (hlo l) (hln l)) q) (by rw [List.length_append]; show 0 + _ ≤ _; omega) ?_
    have e : [] ++ (n.os ++ n.ns).map (fun l => D.bl (lv vals l)) = bD ((n.os ++ n.ns).map (lv vals)) := by
      unfold bD
      rw [List.nil_append, List.map_map]
      rfl
    rw [e]
    dsimp only [tdNil, tdCons]
    exact gTuple_lst hR
  rintro ρ S1 ⟨rfl, rfl⟩
  have hzl : (ouN.zip n.os).length = n.os.length := by rw [List.length_zip]; show min 6 _ = _; omega
  have hq := fini hq
  rw [Net.d_eq]
  have hol2 : n.ouD = (ouN.zip n.os).map fun p => D.tup [.str p.1, nat p.2] := rfl
  have houl : n.ouD.length = n.os.length := by rw [hol2, List.length_map, hzl]
  have ee1 : cutL (bD ((n.os ++ n.ns).map (lv vals))) none (some ((n.os.length : Nat) : Int)) = bD (n.os.map (lv vals)) := by
    rw [cutL_to]
    unfold bD
    rw [← List.map_take, ← List.map_take, List.take_left]
  have hall : (bD ((n.os ++ n.ns).map (lv vals))).length = n.os.length + n.ns.length := by
    unfold bD
    rw [List.length_map, List.length_map, List.length_append]
  have ho1 := hn.o1
  have hn1 : 1 ≤ n.ns.length := by have := hn.n1; have := hn.f1; omega
  have ee2 : cutL (bD ((n.os ++ n.ns).map (lv vals))) (some ((n.os.length : Nat) : Int)) none = bD (n.ns.map (lv vals)) := by
    rw [cutL_n]
    unfold bD
    rw [← List.map_drop, ← List.map_drop, List.drop_left]
  generalize D.tup (n.ins.map D.str) = c0
  generalize D.tup n.rgD = c1
  generalize D.tup (n.gs.map DL.prD) = c2
  generalize D.tup (n.ns.map nat) = c4
  unfold rowD at hq ⊢
  generalize bD ((n.os ++ n.ns).map (lv vals)) = all at *
  generalize bD (n.os.map (lv vals)) = al1 at *
  generalize bD (n.ns.map (lv vals)) = al2 at *
  clear hol2 hlo hln ho3
  walk_at "nd"
  simp only [HT.sIx_nat, HT.sIx_none]
  try rw [hall]
  exact ⟨fun z => by omega, fun z => by omega, trivial⟩
end K06
namespace K06
open PySem PySem.Spec L2 DL
local macro_rules | `(tactic| walk_at "nd") => `(tactic| simp only [icO, isN0, gCatB, gEq_bb, tdLcB, tdDNew, tdNNew, tdNGet, tdNPut, tdFGet, tdiF, tdDctF, tdDc, tdDcN, tdTru, tdDAugG, tdDictZ, tdCallV, tdLc2, ln_4, ln_5, ln_6, fmod_2, fdiv_2, gAddT, tdIdx, gdUnl, tdiD, gSortI, gMin2, gMax2, gTuple, gDictP, tdLcT, lcT, setD, unsetD, tdKGet, tdKGet2, tdGet2, tdPop, tdSeq, tdAsg, tdV, gdName, tdAnd, tdOr, tdNot, tdB, tdOp, tdCB, tdCons, tdNil, tdC, tdAug, tdSl, tdP, tdRet, tdTup, tdIf, tdIfS, gOrd, gI0, gI, gLen, gIx, gAdd, gInt, vw, ixP, gSl, tdDrop, tdRetN, tdNext, gIn_sc, gIn_ts, gIn_ls, gIn_t2, gIn_l2, gIn_l4, tdApp, sl_0, sl_1, sl_2, sl_3, sl_4, sl_5, ff, tt', true_and, id,
  eqS, tdFor, tdiT, tdiL, tdiR, tdXp, gList, gEq_ns, tdJoin, gJoin, vwS, gMul, gMod, gDiv, gPow, gI, tdAugS, gdSub, gSet, ixN_2, ixN_3, atI_3, atI_4, gEq_ss, gEq_ii, tdDict, tdPairs, tdNeg, Option.isNone_none, Option.isNone_some, gIsi, tdGet, tdDPut, tdDAug, tdIsN, tdNotN, DO.dic.injEq, Option.isNone_none, Option.isNone_some, gIn_l2, gIn_t2, Option.getD_some, tdLc, gMax, tdNoP, forR, tdRaise, tdCall, tdNotV, tdAndV, tdOrV, tdBox, tdZ, gdTup, gdCons, gdNil, tdBreak, tdCont, tdYes, icast, icast1, icast2, icast3, tdLst, gIn_l4, icastL, icastE, icastZ, ln_0, ln_1, ln_2, ln_3,
  List.getElem?_cons_zero, List.getElem?_cons_succ, List.set_cons_zero, List.set_cons_succ, Option.some.injEq, exists_eq_left', exists_eq_left, D.bl.injEq, decide_eq_true_eq,
  tdFldC, tdMeth, tdMake, tdPutF, tdAugF, D.ref.injEq, DO.ins.injEq, and_assoc, DL.gSub, D.int.injEq, D.str.injEq, sup_same, eq_self, not_true_eq_false, not_false_eq_true, Bool.false_eq_true, Bool.not_eq_true, decide_not, atIn, atI_0, atI_1, atI_2, List.getElem?_map, Option.map_some, Option.map_none, decide_true, decide_false, Bool.not_true, Bool.not_false, if_true, if_false, lm_0, lm_1, lm_2, List.length_map, exists_and_left, *])
variable {P : Program} {w : World} {K : PySem.W.Frag} {mg : Str → Option Value} {base : Heap}
/-- the name of an output -/
def ouT (p : Nat) : Tx := ouN.getD p []
theorem idx_ou {S : Store} {x : D} {m p : Nat} (hm : m ≤ 3) (hp : p < m) (hx : vw S x = .lst ((ouN.take m).map D.str)) {Q : Nat → Prop} (q : Q p) :
    ∃ ds j z, vw S x = .lst ds ∧ D.pures ds = true ∧ (vw S (.str (ouT p))).pure = true ∧ SeqAt.shaped (D.lst ds).data = true ∧ SeqAt.shaped (vw S (.str (ouT p))).data = true ∧
      (D.datas ds)[j]? = some z ∧ PyData.eqv z (vw S (.str (ouT p))).data = true ∧ (∀ (m : Nat) (z' : PyData), m < j → (D.datas ds)[m]? = some z' → PyData.eqv z' (vw S (.str (ouT p))).data = false) ∧ Q j := by
  have e : vw S (.str (ouT p)) = .str (ouT p) := rfl
  rw [e]
  obtain ⟨rfl, rfl⟩ | ⟨rfl, rfl⟩ | ⟨rfl, rfl⟩ | ⟨rfl, rfl⟩ | ⟨rfl, rfl⟩ | ⟨rfl, rfl⟩ : (m = 1 ∧ p = 0) ∨ (m = 2 ∧ p = 0) ∨ (m = 2 ∧ p = 1) ∨ (m = 3 ∧ p = 0) ∨ (m = 3 ∧ p = 1) ∨ (m = 3 ∧ p = 2) := by omega
  · exact ⟨_, 0, _, hx, by decide +kernel, by decide +kernel, by decide +kernel, by decide +kernel, rfl, by decide +kernel, (fun m z h => absurd h (by omega)), q⟩
  · exact ⟨_, 0, _, hx, by decide +kernel, by decide +kernel, by decide +kernel, by decide +kernel, rfl, by decide +kernel, (fun m z h => absurd h (by omega)), q⟩
  · refine ⟨_, 1, _, hx, by decide +kernel, by decide +kernel, by decide +kernel, by decide +kernel, rfl, by decide +kernel, (fun m z h h2 => ?_), q⟩
    obtain rfl : m = 0 := by omega
    injection h2 with h2; subst h2; decide +kernel
  · exact ⟨_, 0, _, hx, by decide +kernel, by decide +kernel, by decide +kernel, by decide +kernel, rfl, by decide +kernel, (fun m z h => absurd h (by omega)), q⟩
  · refine ⟨_, 1, _, hx, by decide +kernel, by decide +kernel, by decide +kernel, by decide +kernel, rfl, by decide +kernel, (fun m z h h2 => ?_), q⟩
    obtain rfl : m = 0 := by omega
    injection h2 with h2; subst h2; decide +kernel
  · refine ⟨_, 2, _, hx, by decide +kernel, by decide +kernel, by decide +kernel, by decide +kernel, rfl, by decide +kernel, (fun m z h h2 => ?_), q⟩
    obtain rfl | rfl : m = 0 ∨ m = 1 := by omega
    · injection h2 with h2; subst h2; decide +kernel
    · injection h2 with h2; subst h2; decide +kernel
theorem ou_mem {m p : Nat} (hm : m ≤ 3) (hp : p < m) : ouT p ∈ ouN.take m := by
  unfold ouT
  rw [List.getD_eq_getElem?_getD, List.getElem?_eq_getElem (show p < ouN.length by show p < 6; omega)]
  exact List.mem_take_iff_getElem.mpr ⟨p, (by show p < min m 6; omega), rfl⟩
def m_place_of : M := fun ds S Q E => ∃ (n : Net) (p : Nat), ds = [n.d, .str (ouT p)] ∧ n.ok ∧ p < n.os.length ∧ Q (nat p) S
theorem d_place_of (Z : Zf P w K mg base) : Ca P w K mg base 1 "place_of" ["net", "name"] m_place_of := by
  obtain ⟨fd, F, hb⟩ := Z.F_place_of
  refine ⟨_, fd, df_of (k := 0) F sc_place_of (fun cdv A outer s H E F0 E' B => (dss_cons (ds_setLcT 2 [3, 4] rfl rfl nd_place_of rfl rfl (sw_true rfl rfl rfl (by decide +kernel)) (di_tup (de_ix (dv 0) de_int)) (blkOk_by (own := [("other", 3), ("_", 4)]) (N := N_place_of) (sc := defScope st_place_of) (by decide +kernel)) (fun _ _ _ _ _ => pg_tup rfl (pgs_cons (pg_name (i := 3) nd_place_of rfl (Or.inl rfl)) (pgs_cons (pg_name (i := 4) nd_place_of rfl (Or.inl rfl)) pgs_nil))) (fun _ _ _ _ _ => dts_nil) (fun _ _ _ _ _ => (dv 3)))
    (dss_cons (ds_if (dt_cmp od_nin (dv 1) (dv 2) rfl) dss_never dss_nil)
    (dss_one (ds_ret (de_index (hu65 B.room) (dv 2) (dv 1))))))) ?_, Z.g_place_of, F.kp, hb⟩
  rintro ds S Q E hl ⟨n, p, rfl, hn, hp, hq⟩
  rw [show startD N_place_of [n.d, .str (ouT p)] = [some n.d, some (.str (ouT p)), none, none, none] from rfl, Net.d_eq]
  clear hl
  have ho2 := hn.o2
  have hol2 : n.ouD = (ouN.zip n.os).map fun p => D.tup [.str p.1, nat p.2] := rfl
  generalize D.tup (n.ins.map D.str) = c0
  generalize D.tup n.rgD = c1
  generalize D.tup (n.gs.map DL.prD) = c2
  generalize D.tup (n.ns.map nat) = c4
  rw [hol2]
  refine seq_cut (fun ρ S1 => ρ = [some (.tup [c0, c1, c2, .tup ((ouN.zip n.os).map fun p => D.tup [.str p.1, nat p.2]), c4]), some (.str (ouT p)), some (.lst ((ouN.take n.os.length).map D.str)), none, none] ∧ S = S1) (fun Rest hR => ?_) ?_
  · have hR := hR _ _ ⟨rfl, rfl⟩
    refine ⟨_, rfl, _, rfl, ?_⟩
    show lcT [3, 4] _ _ _ ((ouN.zip n.os).map fun p => D.tup [.str p.1, nat p.2]) [] _ _
    refine lcT_m (fun p : Tx × Nat => D.str p.1) (fun p => [D.str p.1, nat p.2]) (fun _ => rfl) _ _ _ (fun p hp Q' q => ⟨_, rfl, q⟩) ?_ ?_
    · rw [List.length_zip]; show 0 + min 6 _ ≤ _; omega
    · have e : [] ++ (ouN.zip n.os).map (fun p => D.str p.1) = (ouN.take n.os.length).map D.str := by
        rw [List.nil_append, ← zip_fst' ouN n.os, List.map_map]
        rfl
      rw [e]
      exact hR
  rintro ρ S1 ⟨rfl, rfl⟩
  generalize D.tup ((ouN.zip n.os).map fun p => D.tup [.str p.1, nat p.2]) = c3
  have hmem : decide (ouT p ∈ ouN.take n.os.length) = true := decide_eq_true (ou_mem ho2 hp)
  obtain ⟨ds, j, z, e1, e2, e3, e4, e5, e6, e7, e8, hj⟩ := idx_ou (S := S) (x := .lst ((ouN.take n.os.length).map D.str)) ho2 hp rfl (Q := fun j => Q (nat j) S) hq
  clear hq hol2
  cases e1
  have hj := fini hj
  refine ifS_cut false (fun Q' q => ⟨_, rfl, _, rfl, ?_⟩) (fun h => by cases h) (fun _ => ?_)
  · dsimp only
    rw [gIn_ls, hmem]
    exact ⟨_, rfl, q⟩
  · refine ⟨_, rfl, ⟨_, rfl⟩, _, rfl, _, j, z, rfl, e2, e3, e4, e5, e6, e7, e8, hj⟩
end K06
namespace K06
open PySem PySem.Spec L2 DL
local macro_rules | `(tactic| walk_at "nd") => `(tactic| simp only [icO, isN0, gCatB, gEq_bb, tdLcB, tdDNew, tdNNew, tdNGet, tdNPut, tdFGet, tdiF, tdDctF, tdDc, tdDcN, tdTru, tdDAugG, tdDictZ, tdCallV, tdLc2, ln_4, ln_5, ln_6, fmod_2, fdiv_2, gAddT, tdIdx, gdUnl, tdiD, gSortI, gMin2, gMax2, gTuple, gDictP, tdLcT, lcT, setD, unsetD, tdKGet, tdKGet2, tdGet2, tdPop, tdSeq, tdAsg, tdV, gdName, tdAnd, tdOr, tdNot, tdB, tdOp, tdCB, tdCons, tdNil, tdC, tdAug, tdSl, tdP, tdRet, tdTup, tdIf, tdIfS, gOrd, gI0, gI, gLen, gIx, gAdd, gInt, vw, ixP, gSl, tdDrop, tdRetN, tdNext, gIn_sc, gIn_ts, gIn_ls, gIn_t2, gIn_l2, gIn_l4, tdApp, sl_0, sl_1, sl_2, sl_3, sl_4, sl_5, ff, tt', true_and, id,
  eqS, tdFor, tdiT, tdiL, tdiR, tdXp, gList, gEq_ns, tdJoin, gJoin, vwS, gMul, gMod, gDiv, gPow, gI, tdAugS, gdSub, gSet, ixN_2, ixN_3, atI_3, atI_4, gEq_ss, gEq_ii, tdDict, tdPairs, tdNeg, Option.isNone_none, Option.isNone_some, gIsi, tdGet, tdDPut, tdDAug, tdIsN, tdNotN, DO.dic.injEq, Option.isNone_none, Option.isNone_some, gIn_l2, gIn_t2, Option.getD_some, tdLc, gMax, tdNoP, forR, tdRaise, tdCall, tdNotV, tdAndV, tdOrV, tdBox, tdZ, gdTup, gdCons, gdNil, tdBreak, tdCont, tdYes, icast, icast1, icast2, icast3, tdLst, gIn_l4, icastL, icastE, icastZ, ln_0, ln_1, ln_2, ln_3,
  List.getElem?_cons_zero, List.getElem?_cons_succ, List.set_cons_zero, List.set_cons_succ, Option.some.injEq, exists_eq_left', exists_eq_left, D.bl.injEq, decide_eq_true_eq,
  tdFldC, tdMeth, tdMake, tdPutF, tdAugF, D.ref.injEq, DO.ins.injEq, and_assoc, DL.gSub, D.int.injEq, D.str.injEq, sup_same, eq_self, not_true_eq_false, not_false_eq_true, Bool.false_eq_true, Bool.not_eq_true, decide_not, atIn, atI_0, atI_1, atI_2, List.getElem?_map, Option.map_some, Option.map_none, decide_true, decide_false, Bool.not_true, Bool.not_false, if_true, if_false, lm_0, lm_1, lm_2, List.length_map, exists_and_left, *])
variable {P : Program} {w : World} {K : PySem.W.Frag} {mg : Str → Option Value} {base : Heap}
theorem df_vac {k : Nat} {f : Addr} {fd : FuncData} {ps : List Str} {m : M} (h : ∀ ds S Q E, ¬ m ds S Q E) : DF P w K mg base k f fd ps m :=
  ⟨fun vs H Q E ⟨F, S, ds, Q', E', _, _, _, hm, _⟩ => (h _ _ _ _ hm).elim, fun _ _ _ _ _ _ _ _ _ _ _ _ _ ⟨F, S, ds, Q', E', _, _, _, hm, _⟩ => (h _ _ _ _ hm).elim⟩
def Op3.t : Op3 → Tx
  | .and => tx "and"
  | .or => tx "or"
  | .imp => tx "if"
def whoT (w : Bool) : Tx := if w then tx "b_2" else tx "ann"
def rgT (i : Nat) : Tx := rgN.getD i []
/-- a claim's tree -/
def Cl.d : Cl → D
  | .word i => .tup [.str (tx "word"), .str (rgT i)]
  | .non => .tup [.str (tx "none")]
  | .two o a b => .tup [.str o.t, a.d, b.d]
  | .knows w a => .tup [.str (tx "knows"), .str (whoT w), a.d]
  | .told a b => .tup [.str (tx "told"), a.d, b.d]
/-- a table of the registers' values -/
def KvOk (kv : List (DK × D)) (m : Nat) (s : List Bool) : Prop := ∀ i, i < m → valD kv (.inr (rgT i)) = some (.bl (s.getD i false))
def m_value (n : Nat) : M := fun ds S Q E => ∃ (c : Cl) (kp : Addr) (kv : List (DK × D)) (m : Nat) (s : List Bool), ds = [c.d, .ref kp] ∧ S kp = some (.dic kv) ∧ KvOk kv m s ∧ c.plain ∧ c.ok m ∧ c.dp < n ∧ Q (.bl (c.ev s)) S
theorem vac_value (Z : Zf P w K mg base) (k : Nat) : Ca P w K mg base k "_law_value" ["claim", "known"] (m_value 0) := by
  obtain ⟨fd, F, hb⟩ := Z.F__law_value
  exact ⟨_, fd, df_vac fun _ _ _ _ ⟨_, _, _, _, _, _, _, _, _, _, h, _⟩ => by omega, Z.g__law_value, F.kp, hb⟩
theorem d_value (Z : Zf P w K mg base) (n : Nat) (G : Ca P w K mg base n "_law_value" ["claim", "known"] (m_value n)) : Ca P w K mg base (n + 1) "_law_value" ["claim", "known"] (m_value (n + 1)) := by
  obtain ⟨fd, F, hb⟩ := Z.F__law_value
  refine ⟨_, fd, df_of (k := n) F sc__law_value (fun cdv A outer s H E F0 E' B => (dss_cons (ds_if (dt_cmp (od_eq B.units) (de_ix (dv 0) de_int) de_str rfl) (dss_one (ds_ret (de_get B.units1 (dv 1) (de_ix (dv 0) de_int)))) dss_nil)
    (dss_cons (ds_if (dt_cmp (od_eq B.units) (de_ix (dv 0) de_int) de_str rfl) (dss_one (ds_ret de_bl)) dss_nil)
    (dss_cons (ds_set 2 nd__law_value (de_ca G (B.mono (by omega)) rfl (da_cons (de_ix (dv 0) de_int) (da_cons (dv 1) da_nil))))
    (dss_cons (ds_set 3 nd__law_value (de_ca G (B.mono (by omega)) rfl (da_cons (de_ix (dv 0) de_int) (da_cons (dv 1) da_nil))))
    (dss_one (ds_ret (de_get B.units1 (de_dict (.cons de_str (de_and (dv 2) (de_one (dv 3))) (.cons de_str (de_or (dv 2) (de_one (dv 3))) (.cons de_str (de_or (de_not (dv 2)) (de_one (dv 3))) .nil)))) (de_ix (dv 0) de_int))))))))) ?_, Z.g__law_value, F.kp, hb⟩
  rintro ds S Q E hl ⟨c, kp, kv, m, s, rfl, hkp, hkv, hpl, hok, hdp, hq⟩
  clear hl
  have hq0 := hq
  have hq := fini hq
  cases c with
  | word i =>
    have hv := hkv i hok
    rw [show startD N__law_value [(Cl.word i).d, .ref kp] = [some (.tup [.str (tx "word"), .str (rgT i)]), some (.ref kp), none, none] from rfl]
    have hq : Fini Q (.bl (s.getD i false)) S := hq
    clear hkv hok hdp
    walk_at "nd"
    exact ⟨.inr (rgT i), rfl, _, hv, hq⟩
  | non =>
    rw [show startD N__law_value [Cl.non.d, .ref kp] = [some (.tup [.str (tx "none")]), some (.ref kp), none, none] from rfl]
    have hq : Fini Q (.bl false) S := hq
    clear hkv hok hdp
    walk_at "nd"
    rw [if_neg (by decide)]
    trivial
  | two o a b =>
    have hd : max a.dp b.dp + 1 < n + 1 := hdp
    rw [show startD N__law_value [(Cl.two o a b).d, .ref kp] = [some (.tup [.str o.t, a.d, b.d]), some (.ref kp), none, none] from rfl]
    have hA : ∀ Q' : D → Store → Prop, Q' (.bl (a.ev s)) S → m_value n [a.d, .ref kp] S Q' E := fun Q' q => ⟨a, kp, kv, m, s, rfl, hkp, hkv, hpl.1, hok.1, by omega, q⟩
    have hB : ∀ Q' : D → Store → Prop, Q' (.bl (b.ev s)) S → m_value n [b.d, .ref kp] S Q' E := fun Q' q => ⟨b, kp, kv, m, s, rfl, hkp, hkv, hpl.2, hok.2, by omega, q⟩
    have hq0 : Q (.bl (o.ev (a.ev s) (b.ev s))) S := hq0
    clear hq
    clear hkv hok hdp hpl hd
    generalize a.d = ad at *
    generalize b.d = bd at *
    generalize a.ev s = av at *
    generalize b.ev s = bv at *
    refine seq_cut (fun ρ S1 => ρ = [some (.tup [.str o.t, ad, bd]), some (.ref kp), none, none] ∧ S = S1) (fun Rest hR => ?_) ?_
    · have hR := hR _ _ ⟨rfl, rfl⟩
      clear hA hB hq0
      cases o <;> (walk_at "nd"; rw [if_neg (by decide)]; trivial)
    rintro ρ S1 ⟨rfl, rfl⟩
    refine seq_cut (fun ρ S1 => ρ = [some (.tup [.str o.t, ad, bd]), some (.ref kp), none, none] ∧ S = S1) (fun Rest hR => ?_) ?_
    · have hR := hR _ _ ⟨rfl, rfl⟩
      clear hA hB hq0
      cases o <;> (walk_at "nd"; rw [if_neg (by decide)]; trivial)
    rintro ρ S1 ⟨rfl, rfl⟩
    refine seq_cut (fun ρ S1 => ρ = [some (.tup [.str o.t, ad, bd]), some (.ref kp), some (.bl av), none] ∧ S = S1) (fun Rest hR => ?_) ?_
    · have hR := hR _ _ ⟨rfl, rfl⟩
      exact ⟨_, rfl, _, rfl, _, rfl, rfl, hA _ hR⟩
    rintro ρ S1 ⟨rfl, rfl⟩
    refine seq_cut (fun ρ S1 => ρ = [some (.tup [.str o.t, ad, bd]), some (.ref kp), some (.bl av), some (.bl bv)] ∧ S = S1) (fun Rest hR => ?_) ?_
    · have hR := hR _ _ ⟨rfl, rfl⟩
      exact ⟨_, rfl, _, rfl, _, rfl, rfl, hB _ hR⟩
    rintro ρ S1 ⟨rfl, rfl⟩
    clear hA hB
    have hd : ∀ p, S p = none → Sub S (sup S p (.dic (mergeD [] [(.inr (tx "and"), .bl (av && bv)), (.inr (tx "or"), .bl (av || bv)), (.inr (tx "if"), .bl (!av || bv))]))) := fun p hp b u e => by
      rw [sup_ne (fun z => by rw [z, hp] at e; cases e)]; exact e
    have hv : valD (mergeD [] [(.inr (tx "and"), .bl (av && bv)), (.inr (tx "or"), .bl (av || bv)), (.inr (tx "if"), .bl (!av || bv))]) (.inr o.t) = some (.bl (o.ev av bv)) := by
      cases o <;> rfl
    have hF : ∀ p, S p = none → Fini Q (.bl (o.ev av bv)) (sup S p (.dic (mergeD [] [(.inr (tx "and"), .bl (av && bv)), (.inr (tx "or"), .bl (av || bv)), (.inr (tx "if"), .bl (!av || bv))]))) := fun p hp => .inl ⟨S, hd p hp, hq0⟩
    clear hkp hd
    cases av <;> cases bv <;> walk_at "nd"
    all_goals exact ⟨_, rfl, by show 3 ≤ 15; decide, fun p hp => ⟨.inr o.t, rfl, _, hv, hF p hp⟩⟩
  | knows w a => exact hpl.elim
  | told a b => exact hpl.elim
theorem lvalues (Z : Zf P w K mg base) : ∀ n : Nat, Ca P w K mg base n "_law_value" ["claim", "known"] (m_value n)
  | 0 => vac_value Z _
  | n + 1 => d_value Z n (lvalues Z n)
/-- a drawn claim -/
def m_claim (n : Nat) : M := fun ds S Q E => ∃ (a : Addr) (S0 : Store) (m d : Nat), ds = [.ref a, .lst ((rgN.take m).map D.str), nat d] ∧ d < n ∧ 1 ≤ m ∧ m ≤ 4 ∧ Dw a S0 S ∧
  ∀ (c : Cl) (S' : Store), c.plain → c.ok m → c.dp ≤ d → Dw a S0 S' → (∀ b u, b ≠ a → S b = some u → S' b = some u) → Q c.d S'
theorem rg_ne {m : Nat} {S : Store} {Q : D → Store → Prop} (h1 : 1 ≤ m) (h4 : m ≤ 4) (q : Q (.bl false) S) : gEq id S (.lst ((rgN.take m).map D.str)) (.lst []) Q := by
  obtain rfl | rfl | rfl | rfl : m = 1 ∨ m = 2 ∨ m = 3 ∨ m = 4 := by omega
  all_goals
    show (D.lst _).pure = true ∧ (D.lst _).pure = true ∧ SeqAt.shaped (D.lst _).data = true ∧ SeqAt.shaped (D.lst _).data = true ∧ Q (.bl (id (PyData.eqv (D.lst _).data (D.lst _).data))) S
    exact ⟨by decide +kernel, by decide +kernel, by decide +kernel, by decide +kernel, q⟩
theorem vac_claim (Z : Zf P w K mg base) (k : Nat) : Ca P w K mg base k "_law_claim" ["state", "words", "depth"] (m_claim 0) := by
  obtain ⟨fd, F, hb⟩ := Z.F__law_claim
  exact ⟨_, fd, df_vac fun _ _ _ _ ⟨_, _, _, _, _, h, _⟩ => by omega, Z.g__law_claim, F.kp, hb⟩
theorem d_claim (Z : Zf P w K mg base) (n : Nat) (G : Ca P w K mg base (1 + n) "_law_claim" ["state", "words", "depth"] (m_claim n)) : Ca P w K mg base (1 + n + 1) "_law_claim" ["state", "words", "depth"] (m_claim (n + 1)) := by
  obtain ⟨fd, F, hb⟩ := Z.F__law_claim
  refine ⟨_, fd, df_of (k := 1 + n) F sc__law_claim (fun cdv A outer s H E F0 E' B => (dss_cons (ds_set 3 nd__law_claim (de_ca (d__law_next Z) (B.mono (by omega)) rfl (da_cons (dv 0) (da_cons de_int da_nil))))
    (dss_cons (ds_if (PW.pt (dw_or (dt_cmp (od_eq B.units) (dv 2) de_int rfl) (dw_or1 (dt_cmp (od_ord op_lt) (dv 3) de_int rfl)))) (dss_one (ds_ret (de_if (PW.pt (dw_or (dt_cmp (od_eq B.units) (de_ca (d__law_next Z) (B.mono (by omega)) rfl (da_cons (dv 0) (da_cons de_int da_nil))) de_int rfl) (dw_or1 (dt_cmp (od_eq B.units) (dv 1) (de_lst da_nil) rfl)))) (de_tup (da_cons de_str da_nil)) (de_tup (da_cons de_str (da_cons (de_ix (dv 1) (de_ca (d__law_next Z) (B.mono (by omega)) rfl (da_cons (dv 0) (da_cons (de_cB oc_len rfl Z.f_len bb_len (da_cons (dv 1) da_nil)) da_nil)))) da_nil)))))) dss_nil)
    (dss_cons (ds_set 4 nd__law_claim (de_ca G (B.mono (by omega)) rfl (da_cons (dv 0) (da_cons (dv 1) (da_cons (de_op od_sub (dv 2) de_int) da_nil)))))
    (dss_cons (ds_if (dt_cmp (od_eq B.units) (dv 3) de_int rfl) (dss_one (ds_ret (de_tup (da_cons de_str (da_cons (dv 4) (da_cons (de_tup (da_cons de_str da_nil)) da_nil)))))) dss_nil)
    (dss_one (ds_ret (de_tup (da_cons (de_ix (de_lst (da_cons de_str (da_cons de_str (da_cons de_str (da_cons de_str (da_cons de_str da_nil)))))) (de_op od_sub (dv 3) de_int)) (da_cons (dv 4) (da_cons (de_ca G (B.mono (by omega)) rfl (da_cons (dv 0) (da_cons (dv 1) (da_cons (de_op od_sub (dv 2) de_int) da_nil)))) da_nil))))))))))) ?_, Z.g__law_claim, F.kp, hb⟩
  rintro ds S Q E hl ⟨a, S0, m, d, rfl, hd, h1, h4, hw, hq⟩
  clear hl
  have hrl : (rgN.take m).length = m := by rw [List.length_take]; show min m 4 = m; omega
  rw [show startD N__law_claim [.ref a, .lst ((rgN.take m).map D.str), nat d] = [some (.ref a), some (.lst ((rgN.take m).map D.str)), some (nat d), none, none] from rfl]
  refine seq_cut (fun ρ S1 => ∃ pk : Nat, pk < 9 ∧ ρ = [some (.ref a), some (.lst ((rgN.take m).map D.str)), some (nat d), some (nat pk), none] ∧ Dw a S0 S1 ∧ (∀ b u, b ≠ a → S b = some u → S1 b = some u)) (fun Rest hR => ?_) ?_
  · clear hq
    generalize (rgN.take m).map D.str = rg at *
    walk_at "nd"
    exact next_w (lim := 9) hw (by omega) (by omega) fun r S1 hr hd1 hk1 => hR _ _ ⟨r, hr, rfl, hd1, hk1⟩
  rintro ρ S1 ⟨pk, hpk, rfl, hw1, hk1⟩
  have hq1 := fun c S' h1 h2 h3 h4 (h5 : ∀ b u, b ≠ a → S1 b = some u → S' b = some u) => hq c S' h1 h2 h3 h4 (fun b u hb e => h5 b u hb (hk1 b u hb e))
  clear hq hw hk1
  refine seq_cut (fun ρ S2 => ρ = [some (.ref a), some (.lst ((rgN.take m).map D.str)), some (nat d), some (nat pk), none] ∧ S1 = S2 ∧ 0 < d ∧ 3 ≤ pk) (fun Rest hR => ?_) ?_
  · refine ifS_cut (decide (d = 0) || decide (pk < 3)) (fun Q' q => ?_) (fun hb3 => ?_) (fun hb3 => ?_)
    · clear hR hq1
      generalize (rgN.take m).map D.str = rg at *
      walk_at "nd"
      have e3 : decide ((pk : Int) < 3) = decide (pk < 3) := by
        by_cases h : pk < 3
        · rw [decide_eq_true h, decide_eq_true (by omega)]
        · rw [decide_eq_false h, decide_eq_false (by omega)]
      rw [e3]
      by_cases h0 : d = 0
      · rw [if_pos h0]
        rw [decide_eq_true h0, Bool.true_or] at q
        exact q
      · rw [if_neg h0]
        rw [decide_eq_false h0, Bool.false_or] at q
        exact q
    · clear hR
      have hlen : ((rgN.take m).map D.str).length = m := by rw [List.length_map]; exact hrl
      have hat : ∀ r, r < m → atI ((rgN.take m).map D.str) ((r : Nat) : Int) = some (.str (rgT r)) := fun r hr => by
        rw [atIn, List.getElem?_map, List.getElem?_take_of_lt hr]
        unfold rgT
        rw [List.getD_eq_getElem?_getD, List.getElem?_eq_getElem (show r < rgN.length by show r < 4; omega)]
        rfl
      have heq : ∀ (S' : Store) (Q' : D → Store → Prop), Q' (.bl false) S' → gEq id S' (.lst ((rgN.take m).map D.str)) (.lst []) Q' := fun S' Q' q => rg_ne h1 h4 q
      generalize (rgN.take m).map D.str = rg at *
      have hF1 : ∀ S', Dw a S0 S' → (∀ b u, b ≠ a → S1 b = some u → S' b = some u) → Fini Q (.tup [.str (tx "none")]) S' := fun S' h h' => fini (hq1 .non S' trivial trivial (Nat.zero_le _) h h')
      have hF2 : ∀ r, r < m → ∀ S', Dw a S0 S' → (∀ b u, b ≠ a → S1 b = some u → S' b = some u) → Fini Q (.tup [.str (tx "word"), .str (rgT r)]) S' := fun r hr S' h h' => fini (hq1 (.word r) S' trivial hr (Nat.zero_le _) h h')
      clear hq1
      walk_at "nd"
      refine next_w (lim := 6) hw1 (by omega) (by omega) fun r S2 hr hd2 hk2 => ?_
      show ∃ k, D.bl (decide ((r : Int) = 0)) = D.bl k ∧ _
      refine ⟨_, rfl, ?_⟩
      by_cases h0 : (r : Int) = 0
      · rw [if_pos (decide_eq_true h0)]
        exact hF1 _ hd2 hk2
      · rw [if_neg (by rw [decide_eq_false h0]; simp)]
        refine heq _ _ ⟨_, rfl, ?_⟩
        refine iteF ?_
        refine next_w (lim := m) hd2 (by omega) (by omega) fun r3 S3 hr3 hd3 hk3 => ⟨_, hat r3 hr3, ?_⟩
        exact hF2 r3 hr3 _ hd3 (fun b u hb e => hk3 b u hb (hk2 b u hb e))
    · walk_at "nd"
      rw [Bool.or_eq_false_iff] at hb3
      have h1 := of_decide_eq_false hb3.1
      have h2 := of_decide_eq_false hb3.2
      exact hR _ _ ⟨rfl, rfl, by omega, by omega⟩
  rintro ρ S2 ⟨rfl, rfl, hd0, hp3⟩
  have ed : ((d : Nat) : Int) - 1 = ((d - 1 : Nat) : Int) := by omega
  refine seq_cut (fun ρ S2 => ∃ one : Cl, one.plain ∧ one.ok m ∧ one.dp ≤ d - 1 ∧ ρ = [some (.ref a), some (.lst ((rgN.take m).map D.str)), some (nat d), some (nat pk), some one.d] ∧ Dw a S0 S2 ∧ (∀ b u, b ≠ a → S1 b = some u → S2 b = some u)) (fun Rest hR => ?_) ?_
  · clear hq1
    have hrec : ∀ Q' : D → Store → Prop, (∀ (c : Cl) (S' : Store), c.plain → c.ok m → c.dp ≤ d - 1 → Dw a S0 S' → (∀ b u, b ≠ a → S1 b = some u → S' b = some u) → Q' c.d S') → m_claim n [.ref a, .lst ((rgN.take m).map D.str), nat (d - 1)] S1 Q' E :=
      fun Q' q => ⟨a, S0, m, d - 1, rfl, by omega, h1, h4, hw1, q⟩
    have hR := fun (c : Cl) S' h1 h2 h3 h4 h5 => hR [some (.ref a), some (.lst ((rgN.take m).map D.str)), some (nat d), some (nat pk), some c.d] S' ⟨c, h1, h2, h3, rfl, h4, h5⟩
    generalize (rgN.take m).map D.str = rg at *
    clear hw1
    refine ⟨_, rfl, _, rfl, _, rfl, ?_⟩
    show _ ∧ m_claim n [.ref a, .lst rg, .int (((d : Nat) : Int) - 1)] S1 _ E
    rw [ed]
    exact ⟨rfl, hrec _ hR⟩
  rintro ρ S2 ⟨one, o1, o2, o3, rfl, hw2, hk2⟩
  have hq2 := fun c S' h1 h2 h3 h4 (h5 : ∀ b u, b ≠ a → S2 b = some u → S' b = some u) => hq1 c S' h1 h2 h3 h4 (fun b u hb e => h5 b u hb (hk2 b u hb e))
  clear hq1 hw1 hk2
  refine ifS_cut (decide (pk = 8)) (fun Q' q => ?_) (fun hb3 => ?_) (fun hb3 => ?_)
  · clear hq2
    generalize (rgN.take m).map D.str = rg at *
    walk_at "nd"
    have e3 : decide ((pk : Int) = 8) = decide (pk = 8) := by
      by_cases h : pk = 8
      · rw [decide_eq_true h, decide_eq_true (by omega)]
      · rw [decide_eq_false h, decide_eq_false (by omega)]
    rw [e3]
    exact q
  · have hF : Fini Q (.tup [.str (tx "if"), one.d, .tup [.str (tx "none")]]) S2 := fini (hq2 (.two .imp one .non) _ ⟨o1, trivial⟩ ⟨o2, trivial⟩ (by show max one.dp 0 + 1 ≤ d; omega) hw2 (fun b u _ e => e))
    clear hq2
    generalize (rgN.take m).map D.str = rg at *
    walk_at "nd"
  · have h8 := of_decide_eq_false hb3
    have hrec : ∀ Q' : D → Store → Prop, (∀ (c : Cl) (S' : Store), c.plain → c.ok m → c.dp ≤ d - 1 → Dw a S0 S' → (∀ b u, b ≠ a → S2 b = some u → S' b = some u) → Q' c.d S') → m_claim n [.ref a, .lst ((rgN.take m).map D.str), nat (d - 1)] S2 Q' E :=
      fun Q' q => ⟨a, S0, m, d - 1, rfl, by omega, h1, h4, hw2, q⟩
    have hF : ∀ (o : Op3) (c : Cl) (S' : Store), c.plain → c.ok m → c.dp ≤ d - 1 → Dw a S0 S' → (∀ b u, b ≠ a → S2 b = some u → S' b = some u) → Fini Q (.tup [.str o.t, one.d, c.d]) S' :=
      fun o c S' p1 p2 p3 p4 p5 => fini (hq2 (.two o one c) S' ⟨o1, p1⟩ ⟨o2, p2⟩ (by show max one.dp c.dp + 1 ≤ d; omega) p4 p5)
    clear hq2 hb3
    have hrec2 : ∀ Q' : D → Store → Prop, (∀ (c : Cl) (S' : Store), c.plain → c.ok m → c.dp ≤ d - 1 → Dw a S0 S' → (∀ b u, b ≠ a → S2 b = some u → S' b = some u) → Q' c.d S') → m_claim n [.ref a, .lst ((rgN.take m).map D.str), .int (((d : Nat) : Int) - 1)] S2 Q' E := by
      rw [ed]; exact hrec
    clear hrec
    generalize (rgN.take m).map D.str = rg at *
    obtain rfl | rfl | rfl | rfl | rfl : pk = 3 ∨ pk = 4 ∨ pk = 5 ∨ pk = 6 ∨ pk = 7 := by omega
    · exact ⟨sz5 (show 5 ≤ 1000000 by decide), _, rfl, _, rfl, _, rfl, _, rfl, _, rfl, _, rfl, rfl, hrec2 _ fun c S' p1 p2 p3 p4 p5 => ⟨sz5 (show 3 ≤ 1000000 by decide), hF .and c S' p1 p2 p3 p4 p5⟩⟩
    · exact ⟨sz5 (show 5 ≤ 1000000 by decide), _, rfl, _, rfl, _, rfl, _, rfl, _, rfl, _, rfl, rfl, hrec2 _ fun c S' p1 p2 p3 p4 p5 => ⟨sz5 (show 3 ≤ 1000000 by decide), hF .or c S' p1 p2 p3 p4 p5⟩⟩
    · exact ⟨sz5 (show 5 ≤ 1000000 by decide), _, rfl, _, rfl, _, rfl, _, rfl, _, rfl, _, rfl, rfl, hrec2 _ fun c S' p1 p2 p3 p4 p5 => ⟨sz5 (show 3 ≤ 1000000 by decide), hF .imp c S' p1 p2 p3 p4 p5⟩⟩
    · exact ⟨sz5 (show 5 ≤ 1000000 by decide), _, rfl, _, rfl, _, rfl, _, rfl, _, rfl, _, rfl, rfl, hrec2 _ fun c S' p1 p2 p3 p4 p5 => ⟨sz5 (show 3 ≤ 1000000 by decide), hF .imp c S' p1 p2 p3 p4 p5⟩⟩
    · exact ⟨sz5 (show 5 ≤ 1000000 by decide), _, rfl, _, rfl, _, rfl, _, rfl, _, rfl, _, rfl, rfl, hrec2 _ fun c S' p1 p2 p3 p4 p5 => ⟨sz5 (show 3 ≤ 1000000 by decide), hF .or c S' p1 p2 p3 p4 p5⟩⟩
theorem lclaims (Z : Zf P w K mg base) : ∀ n : Nat, Ca P w K mg base (1 + n) "_law_claim" ["state", "words", "depth"] (m_claim n)
  | 0 => vac_claim Z _
  | n + 1 => d_claim Z n (lclaims Z n)
end K06
namespace K06
open PySem PySem.Spec L2 DL
local macro_rules | `(tactic| walk_at "nd") => `(tactic| simp only [icO, isN0, gCatB, gEq_bb, tdLcB, tdDNew, tdNNew, tdNGet, tdNPut, tdFGet, tdiF, tdDctF, tdDc, tdDcN, tdTru, tdDAugG, tdDictZ, tdCallV, tdLc2, ln_4, ln_5, ln_6, fmod_2, fdiv_2, gAddT, tdIdx, gdUnl, tdiD, gSortI, gMin2, gMax2, gTuple, gDictP, tdLcT, lcT, setD, unsetD, tdKGet, tdKGet2, tdGet2, tdPop, tdSeq, tdAsg, tdV, gdName, tdAnd, tdOr, tdNot, tdB, tdOp, tdCB, tdCons, tdNil, tdC, tdAug, tdSl, tdP, tdRet, tdTup, tdIf, tdIfS, gOrd, gI0, gI, gLen, gIx, gAdd, gInt, vw, ixP, gSl, tdDrop, tdRetN, tdNext, gIn_sc, gIn_ts, gIn_ls, gIn_t2, gIn_l2, gIn_l4, tdApp, sl_0, sl_1, sl_2, sl_3, sl_4, sl_5, ff, tt', true_and, id,
  eqS, tdFor, tdiT, tdiL, tdiR, tdXp, gList, gEq_ns, tdJoin, gJoin, vwS, gMul, gMod, gDiv, gPow, gI, tdAugS, gdSub, gSet, ixN_2, ixN_3, atI_3, atI_4, gEq_ss, gEq_ii, tdDict, tdPairs, tdNeg, Option.isNone_none, Option.isNone_some, gIsi, tdGet, tdDPut, tdDAug, tdIsN, tdNotN, DO.dic.injEq, Option.isNone_none, Option.isNone_some, gIn_l2, gIn_t2, Option.getD_some, tdLc, gMax, tdNoP, forR, tdRaise, tdCall, tdNotV, tdAndV, tdOrV, tdBox, tdZ, gdTup, gdCons, gdNil, tdBreak, tdCont, tdYes, icast, icast1, icast2, icast3, tdLst, gIn_l4, icastL, icastE, icastZ, ln_0, ln_1, ln_2, ln_3,
  List.getElem?_cons_zero, List.getElem?_cons_succ, List.set_cons_zero, List.set_cons_succ, Option.some.injEq, exists_eq_left', exists_eq_left, D.bl.injEq, decide_eq_true_eq,
  tdFldC, tdMeth, tdMake, tdPutF, tdAugF, D.ref.injEq, DO.ins.injEq, and_assoc, DL.gSub, D.int.injEq, D.str.injEq, sup_same, eq_self, not_true_eq_false, not_false_eq_true, Bool.false_eq_true, Bool.not_eq_true, decide_not, atIn, atI_0, atI_1, atI_2, List.getElem?_map, Option.map_some, Option.map_none, decide_true, decide_false, Bool.not_true, Bool.not_false, if_true, if_false, lm_0, lm_1, lm_2, List.length_map, exists_and_left, *])
variable {P : Program} {w : World} {K : PySem.W.Frag} {mg : Str → Option Value} {base : Heap}
abbrev Run := List (List Bool)
def runD (r : Run) : D := .tup (r.map rowD)
def bK (b : Bool) : NestedKey := .num (if b = true then 1 else 0)
def rowK (r : List Bool) : NestedKey := .tup (r.map bK)
def runK (r : Run) : NestedKey := .tup (r.map rowK)
theorem nk_bs : ∀ r : List Bool, nkDs (bD r) = some (r.map bK)
  | [] => by unfold bD; rw [List.map_nil]; unfold nkDs; rfl
  | b :: r => by
    unfold bD
    rw [List.map_cons]
    unfold nkDs
    rw [show r.map D.bl = bD r from rfl, nk_bs r, show nkD (.bl b) = some (bK b) by unfold nkD; rfl]
    rfl
theorem nk_row (r : List Bool) : nkD (rowD r) = some (rowK r) := by
  unfold rowD nkD
  rw [nk_bs]
  rfl
theorem nk_rows : ∀ r : Run, nkDs (r.map rowD) = some (r.map rowK)
  | [] => by rw [List.map_nil]; unfold nkDs; rfl
  | b :: r => by
    rw [List.map_cons]
    unfold nkDs
    rw [nk_rows r, nk_row]
    rfl
theorem nk_run (r : Run) : nkD (runD r) = some (runK r) := by
  unfold runD nkD
  rw [nk_rows]
  rfl
theorem dp_bs : ∀ r : List Bool, NestedKey.depthAll (r.map bK) = 0
  | [] => rfl
  | b :: r => by
    rw [List.map_cons]
    show max (NestedKey.depth (bK b)) (NestedKey.depthAll (r.map bK)) = 0
    rw [dp_bs r]
    rfl
theorem dp_rows : ∀ r : Run, NestedKey.depthAll (r.map rowK) ≤ 1
  | [] => Nat.zero_le _
  | b :: r => by
    rw [List.map_cons]
    show max (NestedKey.depthAll (b.map bK) + 1) (NestedKey.depthAll (r.map rowK)) ≤ 1
    rw [dp_bs b]
    have := dp_rows r
    omega
theorem run_key (r : Run) : KeyD (runD r) (runK r) := ⟨nk_run r, by
  show NestedKey.depthAll (r.map rowK) + 1 ≤ 8
  have := dp_rows r
  omega, _, rfl⟩
theorem row_key (r : List Bool) : KeyD (rowD r) (rowK r) := ⟨nk_row r, by
  show NestedKey.depthAll (r.map bK) + 1 ≤ 8
  rw [dp_bs r]
  omega, _, rfl⟩
theorem bK_inj {a b : Bool} (h : bK a = bK b) : a = b := by
  cases a <;> cases b <;> first | rfl | (unfold bK at h; simp at h)
theorem rowK_inj {a b : List Bool} (h : rowK a = rowK b) : a = b := by
  unfold rowK at h
  injection h with h
  exact List.map_inj_right (fun x y => bK_inj) |>.mp h
theorem runK_inj {a b : Run} (h : runK a = runK b) : a = b := by
  unfold runK at h
  injection h with h
  exact List.map_inj_right (fun x y => rowK_inj) |>.mp h
theorem vN_snoc {β : Type} {k k' : NestedKey} {x : β} : ∀ l : List (NestedKey × β), vN (l ++ [(k, x)]) k' = match vN l k' with | some y => some y | none => if k = k' then some x else none
  | [] => by
    show (if k = k' then some x else vN [] k') = _
    rfl
  | (k1, y) :: l => by
    show (if k1 = k' then some y else vN (l ++ [(k, x)]) k') = (match (if k1 = k' then some y else vN l k') with | some y => some y | none => if k = k' then some x else none)
    by_cases h : k1 = k'
    · rw [if_pos h, if_pos h]
    · rw [if_neg h, if_neg h, vN_snoc l]
theorem vN_map {β : Type} {k k' : NestedKey} {f : β → β} : ∀ l : List (NestedKey × β), vN (l.map fun p => if p.1 = k then (p.1, f p.2) else p) k' = if k' = k then (vN l k').map f else vN l k'
  | [] => by rw [List.map_nil]; show vN ([] : List (NestedKey × β)) k' = _; split <;> rfl
  | (k1, y) :: l => by
    rw [List.map_cons]
    by_cases h : k1 = k
    · subst h
      rw [if_pos rfl]
      show (if k1 = k' then some (f y) else vN (l.map _) k') = if k' = k1 then (if k1 = k' then some y else vN l k').map f else (if k1 = k' then some y else vN l k')
      by_cases h2 : k1 = k'
      · rw [if_pos h2, if_pos h2.symm, if_pos h2]; rfl
      · rw [if_neg h2, if_neg (fun z => h2 z.symm), if_neg h2, vN_map l, if_neg (fun z => h2 z.symm)]
    · rw [if_neg h]
      show (if k1 = k' then some y else vN (l.map _) k') = if k' = k then (if k1 = k' then some y else vN l k').map f else (if k1 = k' then some y else vN l k')
      by_cases h2 : k1 = k'
      · rw [if_pos h2, if_pos h2, if_neg (fun z => h (h2.trans z))]
      · rw [if_neg h2, if_neg h2, vN_map l]
theorem setN_same {kvs : List (NestedKey × D × D)} {k : NestedKey} {y v : D} : ∃ y0, vN (setN kvs k y v) k = some (y0, v) := by
  unfold setN pN
  split
  · rename_i h
    obtain ⟨x, hx⟩ := Option.isSome_iff_exists.mp h
    rw [vN_map (f := fun p : D × D => (p.1, v)), if_pos rfl, hx]
    exact ⟨_, rfl⟩
  · rename_i h
    rw [vN_snoc]
    cases hx : vN kvs k with
    | some x => rw [hx] at h; exact absurd rfl h
    | none => exact ⟨y, by show (if k = k then some (y, v) else none) = _; rw [if_pos rfl]⟩
theorem setN_ne {kvs : List (NestedKey × D × D)} {k k' : NestedKey} {y v : D} (h : k' ≠ k) : vN (setN kvs k y v) k' = vN kvs k' := by
  unfold setN pN
  split
  · rw [vN_map (f := fun p : D × D => (p.1, v)), if_neg h]
  · rw [vN_snoc]
    cases vN kvs k' with
    | some x => rfl
    | none => show (if k = k' then _ else _) = _; rw [if_neg (fun z => h z.symm)]
theorem setN_len (kvs : List (NestedKey × D × D)) (k : NestedKey) (y v : D) : (setN kvs k y v).length ≤ kvs.length + 1 := pN_len _ _ _ _
/-- a table as a set of runs -/
def SetR (kvs : List (NestedKey × D × D)) (l : List Run) : Prop := ∀ r : Run, (vN kvs (runK r)).isSome = decide (r ∈ l)
theorem SetR.nil : SetR [] [] := fun r => rfl
theorem SetR.set {kvs : List (NestedKey × D × D)} {l : List Run} (h : SetR kvs l) (r : Run) (y v : D) : SetR (setN kvs (runK r) y v) (l ++ [r]) := fun q => by
  by_cases e : q = r
  · subst e
    obtain ⟨y0, e⟩ := setN_same (kvs := kvs) (k := runK q) (y := y) (v := v)
    rw [e]
    exact (decide_eq_true (by simp)).symm
  · rw [setN_ne (fun z => e (runK_inj z)), h q]
    by_cases m : q ∈ l
    · rw [decide_eq_true m, decide_eq_true (List.mem_append_left _ m)]
    · rw [decide_eq_false m, decide_eq_false (by simp [m, e])]
/-- {r: True for r in ..} -/
theorem dnR_set {α : Type} {v : Nat} {tt : TDT} {tk te : TD} {ρ : Rho} {Q : List (NestedKey × D × D) → Store → Prop} {S : Store} (f : α → D) (g : α → Run) (p : α → Bool) :
    ∀ (L : List α) (acc : List (NestedKey × D × D)) (done : List Run), (∀ x ∈ L, ∀ Q' : Bool → Store → Prop, Q' (p x) S → tt (ρ.set v (some (f x))) S Q') →
      (∀ x ∈ L, ∀ Q' : D → Store → Prop, Q' (runD (g x)) S → tk (ρ.set v (some (f x))) S Q') → (∀ x ∈ L, ∀ Q' : D → Store → Prop, Q' (.bl true) S → te (ρ.set v (some (f x))) S Q') → acc.length + L.length ≤ 100000 → SetR acc done →
      (∀ kvs, SetR kvs (done ++ (L.filter p).map g) → Q kvs S) → dnR v tt tk te ρ (L.map f) acc S Q
  | [], acc, done, _, _, _, _, h, q => q acc (by rw [List.filter_nil, List.map_nil, List.append_nil]; exact h)
  | x :: L, acc, done, ht, hk, he, hl, h, q => by
    rw [List.length_cons] at hl
    rw [List.map_cons]
    unfold dnR
    refine ht x List.mem_cons_self _ ?_
    cases e : p x with
    | true =>
      rw [List.filter_cons_of_pos e] at q
      refine iteT (hk x List.mem_cons_self _ (he x List.mem_cons_self _ ⟨_, run_key (g x), Nat.lt_of_lt_of_le (show acc.length < 100001 by omega) (sz5 (by omega)), ?_⟩))
      refine dnR_set f g p L _ (done ++ [g x]) (fun k hk => ht k (List.mem_cons_of_mem _ hk)) (fun k h => hk k (List.mem_cons_of_mem _ h)) (fun k h => he k (List.mem_cons_of_mem _ h)) ?_ (h.set _ _ _) fun kvs hkv => q kvs ?_
      · have := setN_len acc (runK (g x)) (runD (g x)) (.bl true)
        omega
      · rw [List.append_assoc] at hkv
        exact hkv
    | false =>
      rw [List.filter_cons_of_neg (by rw [e]; simp)] at q
      exact iteF (dnR_set f g p L acc done (fun k hk => ht k (List.mem_cons_of_mem _ hk)) (fun k h => hk k (List.mem_cons_of_mem _ h)) (fun k h => he k (List.mem_cons_of_mem _ h)) (by omega) h q)
end K06
namespace K06
open PySem PySem.Spec L2 DL
local macro_rules | `(tactic| walk_at "nd") => `(tactic| simp only [icO, isN0, gCatB, gEq_bb, tdLcB, tdDNew, tdNNew, tdNGet, tdNPut, tdFGet, tdiF, tdDctF, tdDc, tdDcN, tdTru, tdDAugG, tdDictZ, tdCallV, tdLc2, ln_4, ln_5, ln_6, fmod_2, fdiv_2, gAddT, tdIdx, gdUnl, tdiD, gSortI, gMin2, gMax2, gTuple, gDictP, tdLcT, lcT, setD, unsetD, tdKGet, tdKGet2, tdGet2, tdPop, tdSeq, tdAsg, tdV, gdName, tdAnd, tdOr, tdNot, tdB, tdOp, tdCB, tdCons, tdNil, tdC, tdAug, tdSl, tdP, tdRet, tdTup, tdIf, tdIfS, gOrd, gI0, gI, gLen, gIx, gAdd, gInt, vw, ixP, gSl, tdDrop, tdRetN, tdNext, gIn_sc, gIn_ts, gIn_ls, gIn_t2, gIn_l2, gIn_l4, tdApp, sl_0, sl_1, sl_2, sl_3, sl_4, sl_5, ff, tt', true_and, id,
  eqS, tdFor, tdiT, tdiL, tdiR, tdXp, gList, gEq_ns, tdJoin, gJoin, vwS, gMul, gMod, gDiv, gPow, gI, tdAugS, gdSub, gSet, ixN_2, ixN_3, atI_3, atI_4, gEq_ss, gEq_ii, tdDict, tdPairs, tdNeg, Option.isNone_none, Option.isNone_some, gIsi, tdGet, tdDPut, tdDAug, tdIsN, tdNotN, DO.dic.injEq, Option.isNone_none, Option.isNone_some, gIn_l2, gIn_t2, Option.getD_some, tdLc, gMax, tdNoP, forR, tdRaise, tdCall, tdNotV, tdAndV, tdOrV, tdBox, tdZ, gdTup, gdCons, gdNil, tdBreak, tdCont, tdYes, icast, icast1, icast2, icast3, tdLst, gIn_l4, icastL, icastE, icastZ, ln_0, ln_1, ln_2, ln_3,
  List.getElem?_cons_zero, List.getElem?_cons_succ, List.set_cons_zero, List.set_cons_succ, Option.some.injEq, exists_eq_left', exists_eq_left, D.bl.injEq, decide_eq_true_eq,
  tdFldC, tdMeth, tdMake, tdPutF, tdAugF, D.ref.injEq, DO.ins.injEq, and_assoc, DL.gSub, D.int.injEq, D.str.injEq, sup_same, eq_self, not_true_eq_false, not_false_eq_true, Bool.false_eq_true, Bool.not_eq_true, decide_not, atIn, atI_0, atI_1, atI_2, List.getElem?_map, Option.map_some, Option.map_none, decide_true, decide_false, Bool.not_true, Bool.not_false, if_true, if_false, lm_0, lm_1, lm_2, List.length_map, exists_and_left, *])
variable {P : Program} {w : World} {K : PySem.W.Frag} {mg : Str → Option Value} {base : Heap}
abbrev SeC (K : PySem.W.Frag) : Addr := He.ga K "Seeing"
theorem pl_net (Z : Zf P w K mg base) : Plain K "net" (SeC K) = True := eq_true ⟨Z.c_Seeing, Z.n_Seeing_net⟩
theorem pl_observers (Z : Zf P w K mg base) : Plain K "observers" (SeC K) = True := eq_true ⟨Z.c_Seeing, Z.n_Seeing_observers⟩
theorem pl_runs (Z : Zf P w K mg base) : Plain K "runs" (SeC K) = True := eq_true ⟨Z.c_Seeing, Z.n_Seeing_runs⟩
theorem pl_known (Z : Zf P w K mg base) : Plain K "known" (SeC K) = True := eq_true ⟨Z.c_Seeing, Z.n_Seeing_known⟩
theorem pl_seen (Z : Zf P w K mg base) : Plain K "seen" (SeC K) = True := eq_true ⟨Z.c_Seeing, Z.n_Seeing_seen⟩
/-- names of outputs -/
def nmD (ps : List Nat) : D := .lst (ps.map fun p => .str (ouT p))
def obD (pa pb : List Nat) : D := .dct [.inr (whoT false), .inr (whoT true)] [nmD pa, nmD pb]
def fldD (K : PySem.W.Frag) (n : Net) (pa pb : List Nat) (rs : List Run) (kp sp : Addr) : List (Str × D) := [("net", n.d), ("observers", obD pa pb), ("runs", .lst (rs.map runD)), ("known", .ref kp), ("seen", .ref sp)]
def seO (K : PySem.W.Frag) (n : Net) (pa pb : List Nat) (rs : List Run) (kp sp : Addr) : DO := .ins (SeC K) (fldD K n pa pb rs kp sp)
/-- what the tables tell of a run -/
def KnR (S : Store) (n : Net) (kvs : List (NestedKey × D × D)) (r : Run) : Prop := ∃ y p kv, vN kvs (runK r) = some (y, .ref p) ∧ S p = some (.dic kv) ∧ KvOk kv n.fs.length (n.fin n.fs r)
def SnR (S : Store) (n : Net) (pa pb : List Nat) (kvs : List (NestedKey × D × D)) (r : Run) : Prop := ∃ y p kv, vN kvs (runK r) = some (y, .ref p) ∧ S p = some (.dic kv) ∧ ∀ w, valD kv (.inr (whoT w)) = some (runD (sees n pa pb w r))
structure SeeOk (w : World) (K : PySem.W.Frag) (n : Net) (pa pb : List Nat) (k : Nat) (a : Addr) (S : Store) : Prop where
  ex : ∃ kp sp kvk kvs, S a = some (seO K n pa pb (runsB n.ni k) kp sp) ∧ S kp = some (.dn w kp kvk) ∧ S sp = some (.dn w sp kvs) ∧ (∀ r ∈ runsB n.ni k, KnR S n kvk r) ∧ (∀ r ∈ runsB n.ni k, SnR S n pa pb kvs r)
def plK (pa pb : List Nat) : List (DK × D) := [(.inr (whoT false), .lst (pa.map nat)), (.inr (whoT true), .lst (pb.map nat))]
def m_See_init (w : World) (K : PySem.W.Frag) : M := fun ds S Q E => ∃ (a : Addr) (n : Net) (pa pb : List Nat) (k : Nat), ds = [.ref a, n.d, obD pa pb, nat k] ∧ S a = some (.ins (SeC K) []) ∧ n.ok ∧ (∀ p ∈ pa, p < n.os.length) ∧ (∀ p ∈ pb, p < n.os.length) ∧ pa.length ≤ 20 ∧ pb.length ≤ 20 ∧ n.ni * k ≤ 12 ∧
  ∀ S', (∀ b u, b ≠ a → S b = some u → S' b = some u) → SeeOk w K n pa pb k a S' → Q .non S'
/-- the store while it is made -/
structure Ini (S : Store) (a pl : Addr) (X T : DO) (S' : Store) : Prop where
  fa : S' a = some X
  fp : S' pl = some T
  fo : ∀ b u, b ≠ a → S b = some u → S' b = some u
theorem Ini.put {S : Store} {a pl : Addr} {X T : DO} {S' : Store} (h : Ini S a pl X T S') (hp : pl ≠ a) (X' : DO) : Ini S a pl X' T (sup S' a X') :=
  ⟨sup_same, by rw [sup_ne hp]; exact h.fp, fun b u hb e => by rw [sup_ne hb]; exact h.fo b u hb e⟩
theorem Ini.new {S : Store} {a pl : Addr} {X T : DO} {S' : Store} (h : Ini S a pl X T S') {q : Addr} (hq : S' q = none) (Y : DO) : Ini S a pl X T (sup S' q Y) :=
  ⟨by rw [sup_ne (fun z => by rw [← z, h.fa] at hq; cases hq)]; exact h.fa, by rw [sup_ne (fun z => by rw [← z, h.fp] at hq; cases hq)]; exact h.fp, fun b u hb e => by rw [sup_ne (fun z => by rw [← z, h.fo b u hb e] at hq; cases hq)]; exact h.fo b u hb e⟩
theorem runs_le {m j k : Nat} (h : j ≤ k) (hk : m * k ≤ 12) : (runsB m j).length ≤ 4096 := by
  rw [runsB_len, ← Nat.pow_mul]
  have : m * j ≤ 12 := Nat.le_trans (Nat.mul_le_mul_left _ h) hk
  exact Nat.le_trans (Nat.pow_le_pow_right (by decide) this) (by decide)
theorem dcR_cons {v : Nat} {tk te : TD} {ρ : Rho} {d : D} {ds : List D} {acc : List (DK × D)} {S : Store} {Q : List (DK × D) → Store → Prop}
    (h : tk (ρ.set v (some d)) S fun y S2 => te (ρ.set v (some d)) S2 fun z S3 => ∃ k, y = kD k ∧ acc.length < sizeLine ∧ dcR v tdYes tk te ρ ds (putD acc k z) S3 Q) : dcR v tdYes tk te ρ (d :: ds) acc S Q := by
  unfold dcR
  show if true = true then (tk (ρ.set v (some d)) S fun y S2 => te (ρ.set v (some d)) S2 fun z S3 => ∃ k, y = kD k ∧ acc.length < sizeLine ∧ dcR v tdYes tk te ρ ds (putD acc k z) S3 Q) else dcR v tdYes tk te ρ ds acc S Q
  exact iteT h
theorem ins_len {n : Net} (hn : n.ok) : (n.ins.map D.str).length = n.ni := by
  rw [List.length_map]
  unfold Net.ins
  rw [List.length_take]
  have := hn.i2
  show min n.ni 9 = _
  omega
/-- what one is told *)  -/
def tlK (la lb : Run) : List (DK × D) := [(.inr (whoT false), runD la), (.inr (whoT true), runD lb)]
theorem who_ne : whoT false ≠ whoT true := by decide
theorem tl_a {la lb la' : Run} : putD (tlK la lb) (.inr (whoT false)) (runD la') = tlK la' lb := rfl
theorem tl_b {la lb lb' : Run} : putD (tlK la lb) (.inr (whoT true)) (runD lb') = tlK la lb' := rfl
theorem tl_v {la lb : Run} (w : Bool) : valD (tlK la lb) (.inr (whoT w)) = some (runD (if w = true then lb else la)) := by cases w <;> rfl
theorem pl_v {pa pb : List Nat} (w : Bool) : valD (plK pa pb) (.inr (whoT w)) = some (.lst ((if w = true then pb else pa).map nat)) := by cases w <;> rfl
theorem kv_ok {s : List Bool} {m : Nat} (h : s.length = m) (h4 : m ≤ 4) : KvOk (mergeD [] (((rgN.take m).map Sum.inr).zip (bD s))) m s := by
  intro i hi
  match s, h with
  | [], rfl => exact absurd hi (by show ¬ i < 0; omega)
  | [a], rfl => (obtain rfl : i = 0 := by (have : i < 1 := hi); omega); rfl
  | [a, b], rfl => (obtain rfl | rfl : i = 0 ∨ i = 1 := by (have : i < 2 := hi); omega) <;> rfl
  | [a, b, c], rfl => (obtain rfl | rfl | rfl : i = 0 ∨ i = 1 ∨ i = 2 := by (have : i < 3 := hi); omega) <;> rfl
  | [a, b, c, d], rfl => (obtain rfl | rfl | rfl | rfl : i = 0 ∨ i = 1 ∨ i = 2 ∨ i = 3 := by (have : i < 4 := hi); omega) <;> rfl
  | _ :: _ :: _ :: _ :: _ :: _, rfl => exact absurd h4 (by show ¬ _ + 1 + 1 + 1 + 1 + 1 ≤ 4; omega)
structure Ld (S : Store) (w : World) (K : PySem.W.Frag) (a : Addr) (n : Net) (pa pb : List Nat) (k : Nat) (kp sp pl : Addr) (done : List Run) (S' : Store) : Prop where
  i : Ini S a pl (seO K n pa pb (runsB n.ni k) kp sp) (.dic (plK pa pb)) S'
  kn : ∃ kvk, S' kp = some (.dn w kp kvk) ∧ kvk.length ≤ done.length ∧ ∀ r ∈ done, KnR S' n kvk r
  sn : ∃ kvs, S' sp = some (.dn w sp kvs) ∧ kvs.length ≤ done.length ∧ ∀ r ∈ done, SnR S' n pa pb kvs r
section
variable {S S' S1 : Store} {a : Addr} {n : Net} {pa pb : List Nat} {k : Nat} {kp sp pl : Addr} {done : List Run}
theorem Ini.sub {X T : DO} (h : Ini S a pl X T S1) (hs : Sub S1 S') : Ini S a pl X T S' := ⟨hs _ _ h.fa, hs _ _ h.fp, fun b u hb e => hs _ _ (h.fo b u hb e)⟩
theorem KnR.dic {kvk : List (NestedKey × D × D)} {r : Run} (h : KnR S1 n kvk r) (hs : ∀ p kv, S1 p = some (.dic kv) → S' p = some (.dic kv)) : KnR S' n kvk r := by
  obtain ⟨y, p, kv, h1, h2, h3⟩ := h
  exact ⟨y, p, kv, h1, hs _ _ h2, h3⟩
theorem SnR.dic {kvk : List (NestedKey × D × D)} {r : Run} (h : SnR S1 n pa pb kvk r) (hs : ∀ p kv, S1 p = some (.dic kv) → S' p = some (.dic kv)) : SnR S' n pa pb kvk r := by
  obtain ⟨y, p, kv, h1, h2, h3⟩ := h
  exact ⟨y, p, kv, h1, hs _ _ h2, h3⟩
theorem Ld.sub (h : Ld S w K a n pa pb k kp sp pl done S1) (hs : Sub S1 S') : Ld S w K a n pa pb k kp sp pl done S' := by
  obtain ⟨h1, ⟨kvk, h2, h3, h4⟩, kvs, h5, h6, h7⟩ := h
  exact ⟨h1.sub hs, ⟨kvk, hs _ _ h2, h3, fun r hr => (h4 r hr).dic fun p kv => hs _ _⟩, kvs, hs _ _ h5, h6, fun r hr => (h7 r hr).dic fun p kv => hs _ _⟩
/-- a run's tables are kept -/
theorem Ld.step (h : Ld S w K a n pa pb k kp sp pl done S1) (hkp : S kp = none) (hsp : S sp = none) (hks : kp ≠ sp) {r : Run} {p q : Addr} {kv tl : List (DK × D)} {y y2 : D} {kvk kvs : List (NestedKey × D × D)} (hk1 : S1 kp = some (.dn w kp kvk)) (hs1 : S1 sp = some (.dn w sp kvs))
    (hp : S1 p = some (.dic kv)) (hkv : KvOk kv n.fs.length (n.fin n.fs r)) (hq : S1 q = some (.dic tl)) (htl : ∀ w, valD tl (.inr (whoT w)) = some (runD (sees n pa pb w r))) :
    Ld S w K a n pa pb k kp sp pl (done ++ [r]) (sup (sup S1 kp (.dn w kp (setN kvk (runK r) y (.ref p)))) sp (.dn w sp (setN kvs (runK r) y2 (.ref q)))) := by
  obtain ⟨h1, ⟨kvk', h2, h3, h4⟩, kvs', h5, h6, h7⟩ := h
  rw [hk1] at h2
  rw [hs1] at h5
  cases h2
  cases h5
  have hd : ∀ X Y : List (NestedKey × D × D), ∀ p kv, S1 p = some (.dic kv) → sup (sup S1 kp (.dn w kp X)) sp (.dn w sp Y) p = some (.dic kv) := fun X Y b kv' e => by
    rw [sup_ne (fun z => by rw [z, hs1] at e; cases e), sup_ne (fun z => by rw [z, hk1] at e; cases e)]
    exact e
  refine ⟨⟨?_, hd _ _ _ _ h1.fp, fun b u hb e => ?_⟩, ⟨_, by rw [sup_ne hks]; exact sup_same, ?_, fun r' hr' => ?_⟩, _, sup_same, ?_, fun r' hr' => ?_⟩
  · have e := h1.fa
    unfold seO at e ⊢
    rw [sup_ne (fun z => by rw [z, hs1] at e; cases e), sup_ne (fun z => by rw [z, hk1] at e; cases e)]
    exact e
  · rw [sup_ne (fun z => by rw [z, hsp] at e; cases e), sup_ne (fun z => by rw [z, hkp] at e; cases e)]
    exact h1.fo b u hb e
  · rw [List.length_append]
    have := setN_len kvk (runK r) y (.ref p)
    show _ ≤ done.length + 1
    omega
  · by_cases e : r' = r
    · subst e
      obtain ⟨y0, e⟩ := setN_same (kvs := kvk) (k := runK r') (y := y) (v := .ref p)
      exact ⟨y0, p, kv, e, hd _ _ _ _ hp, hkv⟩
    · have hm : r' ∈ done := (List.mem_append.mp hr').elim id fun z => absurd (List.mem_singleton.mp z) e
      obtain ⟨y0, p0, kv0, e1, e2, e3⟩ := h4 r' hm
      exact ⟨y0, p0, kv0, by rw [setN_ne (fun z => e (runK_inj z))]; exact e1, hd _ _ _ _ e2, e3⟩
  · rw [List.length_append]
    have := setN_len kvs (runK r) y2 (.ref q)
    show _ ≤ done.length + 1
    omega
  · by_cases e : r' = r
    · subst e
      obtain ⟨y0, e⟩ := setN_same (kvs := kvs) (k := runK r') (y := y2) (v := .ref q)
      exact ⟨y0, q, tl, e, hd _ _ _ _ hq, htl⟩
    · have hm : r' ∈ done := (List.mem_append.mp hr').elim id fun z => absurd (List.mem_singleton.mp z) e
      obtain ⟨y0, p0, kv0, e1, e2, e3⟩ := h7 r' hm
      exact ⟨y0, p0, kv0, by rw [setN_ne (fun z => e (runK_inj z))]; exact e1, hd _ _ _ _ e2, e3⟩
end
theorem see_go {ρ : Rho} {out : List Bool} {ps : List Nat} {S : Store} {Q : List D → Store → Prop} (h12 : ρ[12]? = some (some (rowD out))) (hl : 13 < ρ.length) (hp : ∀ p ∈ ps, p < out.length) (h20 : ps.length ≤ 20)
    (q : Q (bD (ps.map fun p => out.getD p false)) S) : lcR 13 tdYes (tdOp gIx (tdV 12) (tdV 13)) ρ (ps.map nat) [] S Q := by
  refine lcR_map nat (fun p => .bl (out.getD p false)) ps [] S (fun p hpm Q' q' => ?_) (by show 0 + _ ≤ _; omega) ?_
  · refine ⟨rowD out, by rw [List.getElem?_set_ne (by decide)]; exact h12, nat p, by rw [List.getElem?_set_self hl], .bl (out.getD p false), ?_, q'⟩
    show atI (bD out) ((p : Nat) : Int) = _
    rw [atIn]
    unfold bD
    rw [List.getElem?_map, List.getD_eq_getElem?_getD, List.getElem?_eq_getElem (hp p hpm)]
    rfl
  · rw [List.nil_append]
    have e : ps.map (fun p => D.bl (out.getD p false)) = bD (ps.map fun p => out.getD p false) := by unfold bD; rw [List.map_map]; rfl
    rw [e]
    exact q
theorem tl_app (l : Run) (x : List Bool) : D.tup (l.map rowD ++ [.tup (bD x)]) = runD (l ++ [x]) := by unfold runD; rw [List.map_append]; rfl
def fd0 (n : Net) (pa pb : List Nat) : List (Str × D) := [("net", n.d), ("observers", obD pa pb)]
def fd1 (n : Net) (pa pb : List Nat) (rs : List Run) : List (Str × D) := [("net", n.d), ("observers", obD pa pb), ("runs", .lst (rs.map runD))]
theorem d_Seeing___init__ (Z : Zf P w K mg base) : Ma P w K mg base 6 "Seeing" (SeC K) ["self", "net", "observers", "length"] (m_See_init w K) := by
  obtain ⟨fd, F, hb⟩ := Z.F_Seeing___init__
  refine ⟨_, fd, df_of (k := 5) F sc_Seeing___init__ (fun cdv A outer s H E F0 E' B => (dss_cons (ds_putFK K rfl (dv 0) (dv 1))
    (dss_cons (ds_putFK K rfl (dv 0) (dv 2))
    (dss_cons (ds_setDc 4 rfl nd_Seeing___init__ rfl rfl (sw_trueD rfl rfl rfl (by decide +kernel)) (di_F (dv 2)) (blkOk_by (own := [("who", 6)]) (N := N_Seeing___init__) (sc := defScope st_Seeing___init__) (by decide +kernel)) (fun _ _ _ _ _ => pg_name (i := 6) nd_Seeing___init__ rfl (Or.inl rfl)) (fun _ _ _ _ _ => dts_nil) (fun _ _ _ _ _ => (dv 6)) (fun _ _ _ _ _ => (de_lc rfl nd_Seeing___init__ (di_lst (de_fget (hu65 B.blk.room) (dv 2) (dv 6))) (blkOk_in (blkOk_by (own := [("name", 5)]) (N := N_Seeing___init__) (by decide +kernel))) (fun _ _ _ _ _ => pg_name (i := 5) nd_Seeing___init__ rfl (Or.inl rfl)) (fun _ _ _ _ _ => dts_nil) (fun _ _ _ _ _ => (de_ca (d_place_of Z) (B.blk.blk.mono (by omega)) rfl (da_cons (dv 1) (da_cons (dv 5) da_nil)))))))
    (dss_cons (ds_if (dt_cmp (od_ord op_gt) (de_op od_mul (de_cB oc_len rfl Z.f_len bb_len (da_cons (de_ix (dv 1) de_int) da_nil)) (dv 3)) de_int rfl) dss_never dss_nil)
    (dss_cons (ds_putFK K rfl (dv 0) (de_lst (da_cons (de_tup da_nil) da_nil)))
    (dss_cons (ds_for (passes_of rfl) rfl (di_rng rfl Z.f_range (da_cons (dv 3) da_nil)) (dg_name 7 nd_Seeing___init__) (dss_one (ds_putFK K rfl (dv 0) (de_lc2 rfl nd_Seeing___init__ (di_lst (de_fldK K rfl (dv 0))) (blkOk_by (own := [("run", 8), ("inputs", 9)]) (N := N_Seeing___init__) (sc := defScope st_Seeing___init__) (by decide +kernel)) (fun _ _ _ _ _ => pg_name (i := 8) nd_Seeing___init__ rfl (Or.inl rfl)) (fun _ _ _ _ _ => (di_lst (de_ca (d_value_rows Z) (B.blk.mono (by omega)) rfl (da_cons (de_cB oc_len rfl Z.f_len bb_len (da_cons (de_ix (dv 1) de_int) da_nil)) da_nil)))) (fun _ _ _ _ _ => pg_name (i := 9) nd_Seeing___init__ rfl (Or.inl rfl)) (fun _ _ _ _ _ => (de_op od_addT (dv 8) (de_tup (da_cons (dv 9) da_nil))))))))
    (dss_cons (ds_putFK K rfl (dv 0) (de_nnew (w := w) rfl))
    (dss_cons (ds_putFK K rfl (dv 0) (de_nnew (w := w) rfl))
    (dss_one (ds_for (passes_of rfl) rfl (di_lst (de_fldK K rfl (dv 0))) (dg_name 8 nd_Seeing___init__) (dss_cons (ds_set 10 nd_Seeing___init__ (de_ca (d_first_state Z) (B.mono (by omega)) rfl (da_cons (dv 1) da_nil)))
    (dss_cons (ds_setDc 11 rfl nd_Seeing___init__ rfl rfl (sw_trueD rfl rfl rfl (by decide +kernel)) (di_F (dv 2)) (blkOk_by (own := [("who", 6)]) (N := N_Seeing___init__) (sc := defScope st_Seeing___init__) (by decide +kernel)) (fun _ _ _ _ _ => pg_name (i := 6) nd_Seeing___init__ rfl (Or.inl rfl)) (fun _ _ _ _ _ => dts_nil) (fun _ _ _ _ _ => (dv 6)) (fun _ _ _ _ _ => (de_tup da_nil)))
    (dss_cons (ds_for (passes_of rfl) rfl (di_tup (dv 8)) (dg_name 9 nd_Seeing___init__) (dss_cons (ds_asg (de_ca (d_clock Z) (B.mono (by omega)) rfl (da_cons (dv 1) (da_cons (dv 10) (da_cons (dv 9) da_nil)))) (dg_tup (n := 2) rfl (dgs_cons (dg_name 12 nd_Seeing___init__) (dgs_cons (dg_name 10 nd_Seeing___init__) dgs_nil))))
    (dss_one (ds_for (passes_of rfl) rfl (di_F (dv 2)) (dg_name 6 nd_Seeing___init__) (dss_one (ds_daugG (hu65 B.room) (dv 11) (dv 6) (de_tup (da_cons (de_cT oc_tuple rfl Z.f_tuple bb_tuple (da_cons (de_lc rfl nd_Seeing___init__ (di_lst (de_get B.units1 (dv 4) (dv 6))) (blkOk_by (own := [("place", 13)]) (N := N_Seeing___init__) (sc := defScope st_Seeing___init__) (by decide +kernel)) (fun _ _ _ _ _ => pg_name (i := 13) nd_Seeing___init__ rfl (Or.inl rfl)) (fun _ _ _ _ _ => dts_nil) (fun _ _ _ _ _ => (de_ix (dv 12) (dv 13)))) da_nil)) da_nil)) in_addT))))))
    (dss_cons (ds_nput (w := w) rfl (hu65 B.room) (de_fldK K rfl (dv 0)) (dv 8) (de_dictZ rfl rfl Z.f_dict rfl Z.f_zip (da_cons (de_lcT [5, 7] rfl rfl nd_Seeing___init__ (di_tup (de_ix (dv 1) de_int)) (blkOk_by (own := [("name", 5), ("_", 7)]) (N := N_Seeing___init__) (sc := defScope st_Seeing___init__) (by decide +kernel)) (fun _ _ _ _ _ => pg_tup rfl (pgs_cons (pg_name (i := 5) nd_Seeing___init__ rfl (Or.inl rfl)) (pgs_cons (pg_name (i := 7) nd_Seeing___init__ rfl (Or.inl rfl)) pgs_nil))) (fun _ _ _ _ _ => dts_nil) (fun _ _ _ _ _ => (dv 5))) (da_cons (dv 10) da_nil))))
    (dss_one (ds_nput (w := w) rfl (hu65 B.room) (de_fldK K rfl (dv 0)) (dv 8) (dv 11)))))))))))))))))) ?_, Z.k_Seeing, Z.g_Seeing, hb⟩
  rintro ds S Q E hl ⟨a, n, pa, pb, k, rfl, ho, hn, hpa, hpb, hla, hlb, hk, hq⟩
  rw [show startD N_Seeing___init__ [.ref a, n.d, obD pa pb, nat k] = [some (.ref a), some n.d, some (obD pa pb), some (nat k), none, none, none, none, none, none, none, none, none, none] from rfl]
  clear hl
  have p1 := pl_net Z
  have p2 := pl_observers Z
  have p3 := pl_runs Z
  have p4 := pl_known Z
  have p5 := pl_seen Z
  refine seq_cut (fun ρ S1 => ρ = [some (.ref a), some n.d, some (obD pa pb), some (nat k), none, none, none, none, none, none, none, none, none, none] ∧ S1 = sup S a (.ins (SeC K) [("net", n.d)])) (fun Rest hR => ?_) ?_
  · have hR := hR _ _ ⟨rfl, rfl⟩
    clear hq
    generalize obD pa pb = ob at *
    walk_at "nd"
    exact ⟨show 0 < 1000 by decide, hR⟩
  rintro ρ S1 ⟨rfl, rfl⟩
  refine seq_cut (fun ρ S1 => ρ = [some (.ref a), some n.d, some (obD pa pb), some (nat k), none, none, none, none, none, none, none, none, none, none] ∧ S1 = sup S a (.ins (SeC K) (fd0 n pa pb))) (fun Rest hR => ?_) ?_
  · have hR := hR _ _ ⟨rfl, rfl⟩
    clear hq
    unfold fd0 at hR
    generalize obD pa pb = ob at *
    walk_at "nd"
    rw [sup_sup]
    exact ⟨show 1 < 1000 by decide, hR⟩
  rintro ρ S1 ⟨rfl, rfl⟩
  refine seq_cut (fun ρ S1 => ∃ pl, pl ≠ a ∧ ρ = [some (.ref a), some n.d, some (obD pa pb), some (nat k), some (.ref pl), none, none, none, none, none, none, none, none, none] ∧ Ini S a pl (.ins (SeC K) (fd0 n pa pb)) (.dic (plK pa pb)) S1) (fun Rest hR => ?_) ?_
  · have h0 : ∀ pl, sup S a (.ins (SeC K) (fd0 n pa pb)) pl = none → pl ≠ a ∧ Ini S a pl (.ins (SeC K) (fd0 n pa pb)) (.dic (plK pa pb)) (sup (sup S a (.ins (SeC K) (fd0 n pa pb))) pl (.dic (plK pa pb))) := fun pl hp => by
      have h1 : pl ≠ a := fun z => by rw [z, sup_same] at hp; cases hp
      have h2 : S pl = none := by rw [sup_ne h1] at hp; exact hp
      refine ⟨h1, by rw [sup_ne h1.symm, sup_same], sup_same, fun b u hb e => ?_⟩
      rw [sup_ne (fun z => by rw [z, h2] at e; cases e), sup_ne hb]
      exact e
    have hR := fun pl hp => hR [some (.ref a), some n.d, some (obD pa pb), some (nat k), some (.ref pl), none, none, none, none, none, none, none, none, none] _ ⟨pl, (h0 pl hp).1, rfl, (h0 pl hp).2⟩
    clear hq ho h0
    generalize sup S a (.ins (SeC K) (fd0 n pa pb)) = S1 at *
    refine ⟨_, rfl, _, _, rfl, ?_⟩
    show dcR 6 _ _ _ _ [.str (whoT false), .str (whoT true)] [] S1 _
    have key : ∀ (w : Bool) (ps : List Nat) (Q' : D → Store → Prop), ps = (if w = true then pb else pa) → Q' (.lst (ps.map nat)) S1 → tdLc (tdiL (tdFGet (tdV 2) (tdV 6))) 5 tdYes (tdCall m_place_of 2 noX (tdCons (tdV 1) (tdCons (tdV 5) tdNil))) [some (.ref a), some n.d, some (obD pa pb), some (nat k), none, none, some (.str (whoT w)), none, none, none, none, none, none, none] S1 Q' := by
      intro w ps Q' e q
      have hps : (∀ p ∈ ps, p < n.os.length) ∧ ps.length ≤ 20 := by
        subst e
        cases w
        · exact ⟨hpa, hla⟩
        · exact ⟨hpb, hlb⟩
      have e2 : getF [.inr (whoT false), .inr (whoT true)] [nmD pa, nmD pb] (.inr (whoT w)) = some (.lst (ps.map fun p => .str (ouT p))) := by
        subst e
        cases w <;> rfl
      refine ⟨_, rfl, _, rfl, _, _, .inr (whoT w), _, rfl, rfl, e2, ?_⟩
      show lcR 5 _ _ _ (ps.map fun p => .str (ouT p)) [] S1 _
      refine lcR_map (fun p => .str (ouT p)) nat ps [] S1 (fun p hp Q2 q2 => ?_) (by show 0 + _ ≤ _; omega) q
      exact ⟨_, rfl, _, rfl, rfl, n, p, rfl, hn, hps.1 p hp, q2⟩
    refine dcR_cons ⟨_, rfl, key false pa _ rfl ⟨.inr (whoT false), rfl, ?_, ?_⟩⟩
    · exact Nat.lt_of_lt_of_le (show 0 < 1 by decide) (sz5 (by decide))
    refine dcR_cons ⟨_, rfl, key true pb _ rfl ⟨.inr (whoT true), rfl, ?_, ?_⟩⟩
    · exact Nat.lt_of_lt_of_le (show 1 < 2 by decide) (sz5 (by decide))
    unfold dcR
    exact fun pl hp => hR pl hp
  rintro ρ S1 ⟨pl, hpl, rfl, hi⟩
  clear ho
  refine seq_cut (fun ρ S2 => ρ = [some (.ref a), some n.d, some (obD pa pb), some (nat k), some (.ref pl), none, none, none, none, none, none, none, none, none] ∧ S1 = S2) (fun Rest hR => ?_) ?_
  · have hR := hR _ _ ⟨rfl, rfl⟩
    clear hq hi
    rw [Net.d_eq] at hR ⊢
    have hi2 := hn.i2
    have hln : (n.ins.map D.str).length = n.ni := by
      rw [List.length_map]
      unfold Net.ins
      rw [List.length_take]
      have := hn.i2
      show min n.ni 9 = _
      omega
    generalize obD pa pb = ob at *
    generalize n.ins.map D.str = xs at *
    clear hn
    walk_at "nd"
    refine ⟨.inl ⟨by omega, by omega⟩, ?_⟩
    rw [if_neg (by have e : (n.ni : Int) * (k : Int) = ((n.ni * k : Nat) : Int) := by simp
                   rw [e]; omega)]
    trivial
  rintro ρ S2 ⟨rfl, rfl⟩
  refine seq_cut (fun ρ S2 => ρ = [some (.ref a), some n.d, some (obD pa pb), some (nat k), some (.ref pl), none, none, none, none, none, none, none, none, none] ∧ Ini S a pl (.ins (SeC K) (fd1 n pa pb (runsB n.ni 0))) (.dic (plK pa pb)) S2) (fun Rest hR => ?_) ?_
  · have hR := hR _ _ ⟨rfl, hi.put hpl _⟩
    have hia := hi.fa
    clear hq hi
    unfold fd1 at hR
    unfold fd0 at hia
    generalize obD pa pb = ob at *
    walk_at "nd"
    exact ⟨show 2 < 1000 by decide, hR⟩
  clear hi
  rintro ρ S2 ⟨rfl, hi⟩
  refine seq_cut (fun ρ S2 => ∃ x7, ρ = [some (.ref a), some n.d, some (obD pa pb), some (nat k), some (.ref pl), none, none, x7, none, none, none, none, none, none] ∧ Ini S a pl (.ins (SeC K) (fd1 n pa pb (runsB n.ni k))) (.dic (plK pa pb)) S2) (fun Rest hR => ?_) ?_
  · clear hq
    have hi1 := hn.i1
    have hk12 : k ≤ 12 := Nat.le_trans (Nat.le_mul_of_pos_left k hi1) hk
    refine ⟨_, rfl, by omega, by omega, ?_⟩
    show forR _ _ _ (rngD 0 ((k : Nat) : Int).toNat) _ S2
    rw [rng_nat]
    refine for_ind (fun ds ρ S' => ∃ (j m : Nat) (x7 : Option D), ds = (List.range' j m).map nat ∧ j + m = k ∧ ρ = [some (.ref a), some n.d, some (obD pa pb), some (nat k), some (.ref pl), none, none, x7, none, none, none, none, none, none] ∧ Ini S a pl (.ins (SeC K) (fd1 n pa pb (runsB n.ni j))) (.dic (plK pa pb)) S') ?_ ?_ _ _ _ ⟨0, k, none, rfl, by omega, rfl, hi⟩
    · rintro ρ S' ⟨j, m, x7, e1, e2, rfl, hi⟩
      have hm : m = 0 := by
        cases m with
        | zero => rfl
        | succ m => rw [List.range'_succ] at e1; cases e1
      obtain rfl : j = k := by omega
      exact hR _ _ ⟨_, rfl, hi⟩
    · rintro d ds ρ S' W hW ⟨j, m, x7, e1, e2, rfl, hi⟩
      cases m with
      | zero => cases e1
      | succ m =>
        rw [List.range'_succ, List.map_cons] at e1
        injection e1 with e1 e5
        subst e1 e5
        clear hR
        have hW := hW [some (.ref a), some n.d, some (obD pa pb), some (nat k), some (.ref pl), none, none, some (nat j), none, none, none, none, none, none] _ ⟨j + 1, m, some (nat j), rfl, by omega, rfl, hi.put hpl _⟩
        have hia := hi.fa
        clear hi
        have hle := runs_le (m := n.ni) (j := j + 1) (k := k) (by omega) hk
        refine ⟨_, rfl, _, _, _, _, rfl, hia, of_eq_true p3, rfl, ?_⟩
        show lc2R 8 9 _ _ [some (.ref a), some n.d, some (obD pa pb), some (nat k), some (.ref pl), none, none, some (nat j), none, none, none, none, none, none] ((runsB n.ni j).map runD) [] S' _
        have hln : (n.ins.map D.str).length = n.ni := ins_len hn
        have hi2 := hn.i2
        refine lc2_map runD (fun r => (rowsB n.ni).map fun i => runD (r ++ [i])) (rowsB n.ni).length (runsB n.ni j) [] S' (fun r hr acc' Q' ha q => ?_) (fun r hr => by rw [List.length_map]) ?_ ?_
        · refine ⟨n.d, rfl, _, rfl, rfl, ?_⟩
          show m_value_rows [nat (n.ins.map D.str).length] S' _ noX
          rw [hln]
          refine ⟨n.ni, rfl, by omega, ?_⟩
          show lcR 9 _ _ _ ((rowsB n.ni).map rowD) acc' S' Q'
          refine lcR_map rowD (fun i => runD (r ++ [i])) (rowsB n.ni) acc' S' (fun i hi3 Q2 q2 => ?_) (by omega) q
          have hrl := ((mem_runsB _ _ _).mp hr).1
          have e : runD (r ++ [i]) = D.tup (r.map rowD ++ [rowD i]) := by unfold runD; rw [List.map_append]; rfl
          rw [e] at q2
          refine ⟨_, rfl, _, rfl, sz5 (show 1 ≤ 1000000 by decide), ?_, q2⟩
          rw [List.length_map]
          exact sz5 (show r.length + 1 ≤ 1000000 by omega)
        · have e1 : (runsB n.ni (j + 1)).length = (rowsB n.ni).length * (runsB n.ni j).length := by
            rw [runsB_len, runsB_len, rowsB_len, Nat.pow_succ, Nat.mul_comm]
          show 0 + _ ≤ _
          omega
        · have e : [] ++ (runsB n.ni j).flatMap (fun r => (rowsB n.ni).map fun i => runD (r ++ [i])) = (runsB n.ni (j + 1)).map runD := by
            show _ = ((runsB n.ni j).flatMap fun r => (rowsB n.ni).map fun i => r ++ [i]).map runD
            rw [List.nil_append, List.map_flatMap]
            simp only [List.map_map]
            rfl
          rw [e]
          exact ⟨_, rfl, a, _, _, rfl, hia, of_eq_true p3, show 3 < 1000 by decide, hW⟩
  clear hi
  rintro ρ S2 ⟨x7, rfl, hi⟩
  refine seq_cut (fun ρ S3 => ∃ kp, S kp = none ∧ kp ≠ a ∧ ρ = [some (.ref a), some n.d, some (obD pa pb), some (nat k), some (.ref pl), none, none, x7, none, none, none, none, none, none] ∧ Ini S a pl (.ins (SeC K) [("net", n.d), ("observers", obD pa pb), ("runs", .lst ((runsB n.ni k).map runD)), ("known", .ref kp)]) (.dic (plK pa pb)) S3 ∧ S3 kp = some (.dn w kp [])) (fun Rest hR => ?_) ?_
  · refine fun kp hkp => ⟨_, rfl, a, _, _, rfl, (hi.new hkp _).fa, of_eq_true p4, show 3 < 1000 by decide, ?_⟩
    have hka : kp ≠ a := fun z => by rw [z, hi.fa] at hkp; cases hkp
    refine hR _ _ ⟨kp, ?_, hka, rfl, (hi.new hkp _).put hpl _, by rw [sup_ne hka, sup_same]⟩
    cases e : S kp with
    | none => rfl
    | some u => rw [hi.fo kp u hka e] at hkp; cases hkp
  clear hi
  rintro ρ S3 ⟨kp, hkp, hka, rfl, hi, hkv⟩
  refine seq_cut (fun ρ S4 => ∃ sp, S sp = none ∧ kp ≠ sp ∧ ρ = [some (.ref a), some n.d, some (obD pa pb), some (nat k), some (.ref pl), none, none, x7, none, none, none, none, none, none] ∧ Ld S w K a n pa pb k kp sp pl [] S4) (fun Rest hR => ?_) ?_
  · refine fun sp hsp => ⟨_, rfl, a, _, _, rfl, (hi.new hsp _).fa, of_eq_true p5, show 4 < 1000 by decide, ?_⟩
    have hsa : sp ≠ a := fun z => by rw [z, hi.fa] at hsp; cases hsp
    have hks : kp ≠ sp := fun z => by rw [← z, hkv] at hsp; cases hsp
    refine hR _ _ ⟨sp, ?_, hks, rfl, (hi.new hsp _).put hpl _, ⟨[], by rw [sup_ne hka, sup_ne hks]; exact hkv, Nat.le_refl _, fun r h => by cases h⟩, [], by rw [sup_ne hsa, sup_same], Nat.le_refl _, fun r h => by cases h⟩
    cases e : S sp with
    | none => rfl
    | some u => rw [hi.fo sp u hsa e] at hsp; cases hsp
  clear hi hkv
  rintro ρ S4 ⟨sp, hsp, hks, rfl, hL⟩
  have hpaw : ∀ w : Bool, (∀ p ∈ (if w = true then pb else pa), p < n.os.length) ∧ (if w = true then pb else pa).length ≤ 20 := by
    intro w
    cases w
    · exact ⟨hpa, hla⟩
    · exact ⟨hpb, hlb⟩
  clear hpa hpb hla hlb
  refine ⟨_, rfl, _, _, _, _, rfl, hL.i.fa, of_eq_true p3, rfl, ?_⟩
  show forR _ _ _ ((runsB n.ni k).map runD) _ S4
  refine for_ind (fun ds ρ S' => ∃ (l done : List Run) (x5 x6 x7 x8 x9 x10 x11 x12 x13 : Option D), ds = l.map runD ∧ done ++ l = runsB n.ni k ∧
    ρ = [some (.ref a), some n.d, some (obD pa pb), some (nat k), some (.ref pl), x5, x6, x7, x8, x9, x10, x11, x12, x13] ∧ Ld S w K a n pa pb k kp sp pl done S') ?_ ?_ _ _ _ ⟨runsB n.ni k, [], _, _, _, _, _, _, _, _, _, rfl, rfl, rfl, hL⟩
  · rintro ρ S' ⟨l, done, x5, x6, x7, x8, x9, x10, x11, x12, x13, e1, e2, rfl, hL⟩
    have : l = [] := by
      cases l with
      | nil => rfl
      | cons _ _ => cases e1
    subst this
    rw [List.append_nil] at e2
    subst e2
    obtain ⟨h1, ⟨kvk, h2, h3, h4⟩, kvs, h5, h6, h7⟩ := hL
    exact fini (hq _ h1.fo ⟨kp, sp, kvk, kvs, h1.fa, h2, h5, h4, h7⟩)
  clear hL hq
  rintro d ds ρ S' W hW ⟨l, done, x5, x6, x7, x8, x9, x10, x11, x12, x13, e1, e2, rfl, hL⟩
  cases l with
  | nil => cases e1
  | cons r l =>
  injection e1 with e1 e5
  subst e1 e5
  have hrm : r ∈ runsB n.ni k := by rw [← e2]; exact List.mem_append_right _ List.mem_cons_self
  obtain ⟨hr1, hr2⟩ := (mem_runsB _ _ _).mp hrm
  have hi1 := hn.i1
  have hk12 : k ≤ 12 := Nat.le_trans (Nat.le_mul_of_pos_left k hi1) hk
  have hW2 : ∀ (x5 x6 x7 x9 x10 x11 x12 x13 : Option D) S'', Ld S w K a n pa pb k kp sp pl (done ++ [r]) S'' → W [some (.ref a), some n.d, some (obD pa pb), some (nat k), some (.ref pl), x5, x6, x7, some (runD r), x9, x10, x11, x12, x13] S'' :=
    fun x5 x6 x7 x9 x10 x11 x12 x13 S'' h => hW _ _ ⟨l, done ++ [r], x5, x6, x7, _, x9, x10, x11, x12, x13, rfl, by rw [List.append_assoc]; exact e2, rfl, h⟩
  clear hW
  have hdl : done.length ≤ 4096 := by
    have := congrArg List.length e2
    rw [List.length_append] at this
    have := runs_le (m := n.ni) (Nat.le_refl k) hk
    omega
  clear e2 hrm
  show tdSeq _ _ _ [some (.ref a), some n.d, some (obD pa pb), some (nat k), some (.ref pl), x5, x6, x7, some (runD r), x9, x10, x11, x12, x13] S'
  refine seq_cut (fun ρ S1 => ρ = [some (.ref a), some n.d, some (obD pa pb), some (nat k), some (.ref pl), x5, x6, x7, some (runD r), x9, some (rowD n.fs), x11, x12, x13] ∧ S' = S1) (fun Rest hR => ?_) ?_
  · exact ⟨_, rfl, rfl, n, rfl, hn, hR _ _ ⟨rfl, rfl⟩⟩
  rintro ρ S1 ⟨rfl, rfl⟩
  refine seq_cut (fun ρ S1 => ∃ tp, S' tp = none ∧ ρ = [some (.ref a), some n.d, some (obD pa pb), some (nat k), some (.ref pl), x5, x6, x7, some (runD r), x9, some (rowD n.fs), some (.ref tp), x12, x13] ∧ S1 = sup S' tp (.dic (tlK [] []))) (fun Rest hR => ?_) ?_
  · refine ⟨_, rfl, _, _, rfl, ?_⟩
    show dcR 6 _ _ _ _ [.str (whoT false), .str (whoT true)] [] S' _
    refine dcR_cons ⟨_, rfl, ?_⟩
    refine ⟨Nat.zero_le _, .inr (whoT false), rfl, Nat.lt_of_lt_of_le (show 0 < 1 by decide) (sz5 (by decide)), ?_⟩
    refine dcR_cons ⟨_, rfl, ?_⟩
    refine ⟨Nat.zero_le _, .inr (whoT true), rfl, Nat.lt_of_lt_of_le (show 1 < 2 by decide) (sz5 (by decide)), ?_⟩
    unfold dcR
    exact fun tp htp => hR _ _ ⟨tp, htp, rfl, rfl⟩
  rintro ρ S1 ⟨tp, htp, rfl, rfl⟩
  refine seq_cut (fun ρ S1 => ∃ (x6 x9 x12 x13 : Option D), ρ = [some (.ref a), some n.d, some (obD pa pb), some (nat k), some (.ref pl), x5, x6, x7, some (runD r), x9, some (rowD (n.fin n.fs r)), some (.ref tp), x12, x13] ∧ S1 = sup S' tp (.dic (tlK (sees n pa pb false r) (sees n pa pb true r)))) (fun Rest hR => ?_) ?_
  · clear hW2
    refine ⟨_, rfl, ?_⟩
    show forR _ _ _ (r.map rowD) _ _
    refine for_ind (fun ds ρ S1 => ∃ (l q : Run) (x6 x9 x12 x13 : Option D), ds = l.map rowD ∧ q ++ l = r ∧
      ρ = [some (.ref a), some n.d, some (obD pa pb), some (nat k), some (.ref pl), x5, x6, x7, some (runD r), x9, some (rowD (n.fin n.fs q)), some (.ref tp), x12, x13] ∧ S1 = sup S' tp (.dic (tlK (sees n pa pb false q) (sees n pa pb true q)))) ?_ ?_ _ _ _ ⟨r, [], _, _, _, _, rfl, rfl, rfl, rfl⟩
    · rintro ρ S1 ⟨l, q, x6, x9, x12, x13, e1, e2, rfl, rfl⟩
      have : l = [] := by
        cases l with
        | nil => rfl
        | cons _ _ => cases e1
      subst this
      rw [List.append_nil] at e2
      subst e2
      exact hR _ _ ⟨_, _, _, _, rfl, rfl⟩
    clear hR
    rintro d ds ρ S1 W hW ⟨l, q, x6, x9, x12, x13, e1, e2, rfl, rfl⟩
    cases l with
    | nil => cases e1
    | cons i l =>
    injection e1 with e1 e5
    subst e1 e5
    have hil : i.length = n.ni := hr2 i (by rw [← e2]; exact List.mem_append_right _ List.mem_cons_self)
    have hql : q.length ≤ 12 := by
      have := congrArg List.length e2
      rw [List.length_append] at this
      omega
    have hst : (n.fin n.fs q).length = n.fs.length := fin_len n hn.n1 q n.fs rfl
    have hla : (sees n pa pb false q).length = q.length := lk_len _ _ _ _
    have hlb : (sees n pa pb true q).length = q.length := lk_len _ _ _ _
    have es : ∀ w, sees n pa pb w (q ++ [i]) = sees n pa pb w q ++ [n.lo (if w = true then pb else pa) (n.fin n.fs q) i] := fun w => lk_snoc _ _ _ _ _
    have hW := fun x6 x9 x12 x13 => hW [some (.ref a), some n.d, some (obD pa pb), some (nat k), some (.ref pl), x5, x6, x7, some (runD r), x9, some (rowD (n.fin n.fs (q ++ [i]))), some (.ref tp), x12, x13] _ ⟨l, q ++ [i], x6, x9, x12, x13, rfl, by rw [List.append_assoc]; exact e2, rfl, rfl⟩
    clear e2
    rw [es, es, fin_snoc] at hW
    have hol : (n.out (n.fin n.fs q) i).length = n.os.length := out_len _ _ _
    show tdSeq _ _ _ [some (.ref a), some n.d, some (obD pa pb), some (nat k), some (.ref pl), x5, x6, x7, some (runD r), some (rowD i), some (rowD (n.fin n.fs q)), some (.ref tp), x12, x13] _
    refine seq_cut (fun ρ S2 => ρ = [some (.ref a), some n.d, some (obD pa pb), some (nat k), some (.ref pl), x5, x6, x7, some (runD r), some (rowD i), some (rowD (n.nxt (n.fin n.fs q) i)), some (.ref tp), some (rowD (n.out (n.fin n.fs q) i)), x13] ∧ S2 = sup S' tp (.dic (tlK (sees n pa pb false q) (sees n pa pb true q)))) (fun Rest hR => ?_) ?_
    · exact ⟨_, rfl, _, rfl, _, rfl, rfl, n, n.fin n.fs q, i, rfl, hn, hst, hil, _, rfl, rfl, _, _, rfl, _, _, rfl, rfl, hR _ _ ⟨rfl, rfl⟩⟩
    rintro ρ S2 ⟨rfl, rfl⟩
    have hps : ∀ tl, sup S' tp (.dic tl) pl = some (.dic (plK pa pb)) := fun tl => by
      rw [sup_ne (fun z => by rw [← z, hL.i.fp] at htp; cases htp)]
      exact hL.i.fp
    have hpl2 : ∀ (w : Bool), (∀ p ∈ (if w = true then pb else pa), p < (n.out (n.fin n.fs q) i).length) := fun w p hp => by
      rw [hol]; exact (hpaw w).1 p hp
    generalize n.nxt (n.fin n.fs q) i = st' at *
    unfold Net.lo at hW
    generalize n.out (n.fin n.fs q) i = out at *
    generalize sees n pa pb false q = la at *
    generalize sees n pa pb true q = lb at *
    refine ⟨_, rfl, _, _, rfl, ?_⟩
    show forR _ _ _ [.str (whoT false), .str (whoT true)] _ _
    unfold forR
    refine ⟨_, rfl, _, rfl, tp, _, .inr (whoT false), _, rfl, sup_same, rfl, tl_v false, ?_⟩
    refine ⟨_, rfl, _, rfl, pl, _, .inr (whoT false), _, rfl, hps _, rfl, pl_v false, ?_⟩
    show lcR 13 _ _ _ ((if false = true then pb else pa).map nat) [] _ _
    refine see_go (out := out) rfl (show 13 < 14 by decide) (hpl2 false) (hpaw false).2 ?_
    dsimp only [tdNil, tdCons]
    refine gTuple_lst ⟨sz5 (show 1 ≤ 1000000 by decide), _, _, rfl, rfl, ?_, _, sup_same, Nat.lt_of_lt_of_le (show 2 < 3 by decide) (sz5 (by decide)), ?_⟩
    · rw [List.length_map]
      show la.length + 1 ≤ _
      exact sz5 (by omega)
    generalize (if false = true then pb else pa).map (fun p => out.getD p false) = xa at *
    rw [sup_sup, show D.tup ((if false = true then lb else la).map rowD ++ [D.tup (bD xa)]) = runD (la ++ [xa]) from tl_app _ _, tl_a]
    unfold forR
    refine ⟨_, rfl, _, rfl, tp, _, .inr (whoT true), _, rfl, sup_same, rfl, tl_v true, ?_⟩
    refine ⟨_, rfl, _, rfl, pl, _, .inr (whoT true), _, rfl, hps _, rfl, pl_v true, ?_⟩
    show lcR 13 _ _ _ ((if true = true then pb else pa).map nat) [] _ _
    refine see_go (out := out) rfl (show 13 < 14 by decide) (hpl2 true) (hpaw true).2 ?_
    dsimp only [tdNil, tdCons]
    refine gTuple_lst ⟨sz5 (show 1 ≤ 1000000 by decide), _, _, rfl, rfl, ?_, _, sup_same, Nat.lt_of_lt_of_le (show 2 < 3 by decide) (sz5 (by decide)), ?_⟩
    · rw [List.length_map]
      show lb.length + 1 ≤ _
      exact sz5 (by omega)
    generalize (if true = true then pb else pa).map (fun p => out.getD p false) = xb at *
    rw [sup_sup, show D.tup ((if true = true then lb else la ++ [xa]).map rowD ++ [D.tup (bD xb)]) = runD (lb ++ [xb]) from tl_app _ _, tl_b]
    unfold forR
    exact hW _ _ _ _
  rintro ρ S1 ⟨x6, x9, x12, x13, rfl, rfl⟩
  have hsub : Sub S' (sup S' tp (.dic (tlK (sees n pa pb false r) (sees n pa pb true r)))) := fun b u e => by
    rw [sup_ne (fun z => by rw [z, htp] at e; cases e)]
    exact e
  have hL1 := hL.sub hsub
  have htp1 : sup S' tp (.dic (tlK (sees n pa pb false r) (sees n pa pb true r))) tp = some (.dic (tlK (sees n pa pb false r) (sees n pa pb true r))) := sup_same
  clear hL
  generalize sup S' tp (.dic (tlK (sees n pa pb false r) (sees n pa pb true r))) = S1 at *
  have htl : ∀ w, valD (tlK (sees n pa pb false r) (sees n pa pb true r)) (.inr (whoT w)) = some (runD (sees n pa pb w r)) := fun w => by
    rw [tl_v]
    cases w <;> rfl
  have hst : (n.fin n.fs r).length = n.fs.length := fin_len n hn.n1 r n.fs rfl
  have hkvo := kv_ok hst hn.f2
  obtain ⟨kvk, hk1, hk2, _⟩ := hL1.kn
  obtain ⟨kvs, hs1, hs2, _⟩ := hL1.sn
  refine seq_cut (fun ρ S2 => ∃ p, S1 p = none ∧ ρ = [some (.ref a), some n.d, some (obD pa pb), some (nat k), some (.ref pl), x5, x6, x7, some (runD r), x9, some (rowD (n.fin n.fs r)), some (.ref tp), x12, x13] ∧
    S2 = sup (sup S1 p (.dic (mergeD [] (((rgN.take n.fs.length).map Sum.inr).zip (bD (n.fin n.fs r)))))) kp (.dn w kp (setN kvk (runK r) (runD r) (.ref p)))) (fun Rest hR => ?_) ?_
  · rw [Net.d_eq] at hR ⊢
    refine ⟨_, rfl, _, rfl, ?_⟩
    show lcT [5, 7] _ _ _ ((rgN.zip n.fs).map fun p => D.tup [.str p.1, .bl p.2]) [] _ _
    refine lcT_m (fun p : Tx × Bool => D.str p.1) (fun p => [D.str p.1, .bl p.2]) (fun _ => rfl) _ _ _ (fun p hp Q' q => ?_) ?_ ?_
    · exact ⟨_, rfl, q⟩
    · rw [List.length_zip]; show 0 + min 4 _ ≤ _; omega
    · have e : [] ++ (rgN.zip n.fs).map (fun p => D.str p.1) = ((rgN.take n.fs.length).map (Sum.inr : Tx → DK)).map kD := by
        rw [List.nil_append, ← zip_fst' rgN n.fs, List.map_map, List.map_map]
        rfl
      rw [e]
      refine ⟨_, rfl, (rgN.take n.fs.length).map Sum.inr, bD (n.fin n.fs r), rfl, ?_, fun p hp => ?_⟩
      · rw [List.length_map, List.length_take]
        show min _ 4 ≤ _
        omega
      · have hsub : ∀ b u, S1 b = some u → sup S1 p (.dic (mergeD [] (((rgN.take n.fs.length).map Sum.inr).zip (bD (n.fin n.fs r))))) b = some u := fun b u e => by
          rw [sup_ne (fun z => by rw [z, hp] at e; cases e)]
          exact e
        exact ⟨_, rfl, a, _, _, _, rfl, hsub _ _ hL1.i.fa, of_eq_true p4, rfl, _, rfl, kp, kvk, runK r, rfl, hsub _ _ hk1, run_key r, Nat.lt_of_lt_of_le (show kvk.length < 4097 by omega) (sz5 (by decide)), hR _ _ ⟨p, hp, rfl, rfl⟩⟩
  rintro ρ S2 ⟨p, hp, rfl, rfl⟩
  have hsub : ∀ b u, S1 b = some u → sup S1 p (.dic (mergeD [] (((rgN.take n.fs.length).map Sum.inr).zip (bD (n.fin n.fs r))))) b = some u := fun b u e => by
    rw [sup_ne (fun z => by rw [z, hp] at e; cases e)]
    exact e
  have hL2 := hL1.sub hsub
  have htp2 := hsub _ _ htp1
  have hk3 := hsub _ _ hk1
  have hs3 := hsub _ _ hs1
  have hp3 : sup S1 p (.dic (mergeD [] (((rgN.take n.fs.length).map Sum.inr).zip (bD (n.fin n.fs r))))) p = some (.dic (mergeD [] (((rgN.take n.fs.length).map Sum.inr).zip (bD (n.fin n.fs r))))) := sup_same
  clear hL1 htp1 hk1 hs1 hsub hp
  generalize sup S1 p (.dic (mergeD [] (((rgN.take n.fs.length).map Sum.inr).zip (bD (n.fin n.fs r))))) = S5 at *
  have hfin := hL2.step hkp hsp hks hk3 hs3 (r := r) (y := runD r) (y2 := runD r) hp3 hkvo htp2 htl
  have hia : sup S5 kp (.dn w kp (setN kvk (runK r) (runD r) (.ref p))) a = some (seO K n pa pb (runsB n.ni k) kp sp) := by
    rw [sup_ne hka.symm]
    exact hL2.i.fa
  have hsp5 : sup S5 kp (.dn w kp (setN kvk (runK r) (runD r) (.ref p))) sp = some (.dn w sp kvs) := by
    rw [sup_ne hks.symm]
    exact hs3
  exact ⟨_, rfl, _, rfl, a, _, _, _, rfl, hia, of_eq_true p5, rfl, _, rfl, sp, kvs, runK r, rfl, hsp5, run_key r, Nat.lt_of_lt_of_le (show kvs.length < 4097 by omega) (sz5 (by decide)), hW2 _ _ _ _ _ _ _ _ _ hfin⟩
end K06
namespace K06
open PySem PySem.Spec L2 DL
local macro_rules | `(tactic| walk_at "nd") => `(tactic| simp only [icO, isN0, gCatB, gEq_bb, tdLcB, tdDNew, tdNNew, tdNGet, tdNPut, tdFGet, tdiF, tdDctF, tdDc, tdDcN, tdTru, tdDAugG, tdDictZ, tdCallV, tdLc2, ln_4, ln_5, ln_6, fmod_2, fdiv_2, gAddT, tdIdx, gdUnl, tdiD, gSortI, gMin2, gMax2, gTuple, gDictP, tdLcT, lcT, setD, unsetD, tdKGet, tdKGet2, tdGet2, tdPop, tdSeq, tdAsg, tdV, gdName, tdAnd, tdOr, tdNot, tdB, tdOp, tdCB, tdCons, tdNil, tdC, tdAug, tdSl, tdP, tdRet, tdTup, tdIf, tdIfS, gOrd, gI0, gI, gLen, gIx, gAdd, gInt, vw, ixP, gSl, tdDrop, tdRetN, tdNext, gIn_sc, gIn_ts, gIn_ls, gIn_t2, gIn_l2, gIn_l4, tdApp, sl_0, sl_1, sl_2, sl_3, sl_4, sl_5, ff, tt', true_and, id,
  eqS, tdFor, tdiT, tdiL, tdiR, tdXp, gList, gEq_ns, tdJoin, gJoin, vwS, gMul, gMod, gDiv, gPow, gI, tdAugS, gdSub, gSet, ixN_2, ixN_3, atI_3, atI_4, gEq_ss, gEq_ii, tdDict, tdPairs, tdNeg, Option.isNone_none, Option.isNone_some, gIsi, tdGet, tdDPut, tdDAug, tdIsN, tdNotN, DO.dic.injEq, Option.isNone_none, Option.isNone_some, gIn_l2, gIn_t2, Option.getD_some, tdLc, gMax, tdNoP, forR, tdRaise, tdCall, tdNotV, tdAndV, tdOrV, tdBox, tdZ, gdTup, gdCons, gdNil, tdBreak, tdCont, tdYes, icast, icast1, icast2, icast3, tdLst, gIn_l4, icastL, icastE, icastZ, ln_0, ln_1, ln_2, ln_3,
  List.getElem?_cons_zero, List.getElem?_cons_succ, List.set_cons_zero, List.set_cons_succ, Option.some.injEq, exists_eq_left', exists_eq_left, D.bl.injEq, decide_eq_true_eq,
  tdFldC, tdMeth, tdMake, tdPutF, tdAugF, D.ref.injEq, DO.ins.injEq, and_assoc, DL.gSub, D.int.injEq, D.str.injEq, sup_same, eq_self, not_true_eq_false, not_false_eq_true, Bool.false_eq_true, Bool.not_eq_true, decide_not, atIn, atI_0, atI_1, atI_2, List.getElem?_map, Option.map_some, Option.map_none, decide_true, decide_false, Bool.not_true, Bool.not_false, if_true, if_false, lm_0, lm_1, lm_2, List.length_map, exists_and_left, *])
variable {P : Program} {w : World} {K : PySem.W.Frag} {mg : Str → Option Value} {base : Heap}
theorem fini' {Q : D → Store → Prop} {d : D} {S S' : Store} (h : Sub S S') (q : Q d S) : Fini Q d S' := .inl ⟨S, h, q⟩
theorem Sub.refl (S : Store) : Sub S S := fun _ _ e => e
theorem Sub.tr {S S1 S2 : Store} (h : Sub S S1) (h1 : Sub S1 S2) : Sub S S2 := fun b u e => h1 b u (h b u e)
theorem Sub.new {S : Store} {p : Addr} {o : DO} (hp : S p = none) : Sub S (sup S p o) := fun b u e => by
  rw [sup_ne (fun z => by rw [z, hp] at e; cases e)]
  exact e
theorem SeeOk.sub {n : Net} {pa pb : List Nat} {k : Nat} {a : Addr} {S S' : Store} (h : SeeOk w K n pa pb k a S) (hs : Sub S S') : SeeOk w K n pa pb k a S' := by
  obtain ⟨kp, sp, kvk, kvs, h1, h2, h3, h4, h5⟩ := h.ex
  exact ⟨kp, sp, kvk, kvs, hs _ _ h1, hs _ _ h2, hs _ _ h3, fun r hr => (h4 r hr).dic fun p kv => hs _ _, fun r hr => (h5 r hr).dic fun p kv => hs _ _⟩
theorem ob_in {pa pb : List Nat} (w : Bool) : (getF [.inr (whoT false), .inr (whoT true)] [nmD pa, nmD pb] (.inr (whoT w))).isSome = true := by cases w <;> rfl
def m_observer (w : World) (K : PySem.W.Frag) : M := fun ds S Q E => ∃ (a : Addr) (n : Net) (pa pb : List Nat) (k : Nat) (who : Bool), ds = [.ref a, .str (whoT who)] ∧ SeeOk w K n pa pb k a S ∧ Q .non S
theorem d_Seeing_observer (Z : Zf P w K mg base) : Me P w K mg base 1 (SeC K) "observer" ["self", "who"] (m_observer w K) := by
  obtain ⟨fd, F, hb⟩ := Z.F_Seeing_observer
  refine ⟨⟨_, fd, df_of (k := 0) F sc_Seeing_observer (fun cdv A outer s H E F0 E' B => (dss_one (ds_if (dt_cmp (od_ninF (hu65 B.room)) (dv 1) (de_fldK K rfl (dv 0)) rfl) dss_never dss_nil))) ?_, Z.m_Seeing_observer, hb⟩, Z.c_Seeing⟩
  rintro ds S Q E hl ⟨a, n, pa, pb, k, who, rfl, hs, hq⟩
  rw [show startD N_Seeing_observer [.ref a, .str (whoT who)] = [some (.ref a), some (.str (whoT who))] from rfl]
  obtain ⟨kp, sp, kvk, kvs, h1, _⟩ := hs.ex
  refine ifS_cut false (fun Q' q => ?_) (fun h => by cases h) (fun _ => fini hq)
  refine ⟨_, rfl, _, rfl, a, _, _, _, rfl, h1, of_eq_true (pl_observers Z), rfl, _, _, .inr (whoT who), rfl, rfl, _, rfl, ?_⟩
  rw [ob_in who]
  exact q
theorem bool_iff {a b : Bool} (h : a = true ↔ b = true) : a = b := by
  cases a <;> cases b <;> simp at h <;> rfl
theorem kn_gen {R L : Type} [DecidableEq R] [DecidableEq L] (lo : R → L) (good rs : List R) (p r : R → Bool) (hp : ∀ q, p q = true ↔ ¬ q ∈ good) (hr : ∀ q, r q = true ↔ ¬ lo q ∈ (rs.filter p).map lo) : kn lo good rs = rs.filter r := by
  unfold kn
  have e : (fun q => !decide (q ∈ good)) = p := funext fun q => bool_iff (by rw [hp, Bool.not_eq_true', decide_eq_false_iff_not])
  rw [e]
  exact List.filter_congr fun q _ => bool_iff (by rw [hr, Bool.not_eq_true', decide_eq_false_iff_not])
theorem ndec_iff {p : Prop} [Decidable p] : (!decide p) = true ↔ ¬ p := by rw [Bool.not_eq_true', decide_eq_false_iff_not]
theorem kn_eq (lo : Run → Run) (good rs : List Run) : kn lo good rs = rs.filter fun r => !decide (lo r ∈ (rs.filter fun q => !decide (q ∈ good)).map lo) :=
  kn_gen lo good rs _ _ (fun q => ndec_iff) fun q => ndec_iff
def m_knows (w : World) (K : PySem.W.Frag) : M := fun ds S Q E => ∃ (a : Addr) (n : Net) (pa pb : List Nat) (k : Nat) (who : Bool) (good rs : List Run), ds = [.ref a, .str (whoT who), .lst (good.map runD), .lst (rs.map runD)] ∧ SeeOk w K n pa pb k a S ∧
  (∀ r ∈ rs, r ∈ runsB n.ni k) ∧ good.length ≤ 4096 ∧ rs.length ≤ 4096 ∧ Q (.lst ((kn (sees n pa pb who) good rs).map runD)) S
theorem d_Seeing_knows (Z : Zf P w K mg base) : Me P w K mg base 1 (SeC K) "knows" ["self", "who", "good", "runs"] (m_knows w K) := by
  obtain ⟨fd, F, hb⟩ := Z.F_Seeing_knows
  refine ⟨⟨_, fd, df_of (k := 0) F sc_Seeing_knows (fun cdv A outer s H E F0 E' B => (dss_cons (ds_set 4 nd_Seeing_knows (de_dcN (w := w) rfl (hu65 B.room) rfl nd_Seeing_knows (di_lst (dv 2)) (blkOk_by (own := [("run", 5)]) (N := N_Seeing_knows) (sc := defScope st_Seeing_knows) (by decide +kernel)) (fun _ _ _ _ _ => pg_name (i := 5) nd_Seeing_knows rfl (Or.inl rfl)) (fun _ _ _ _ _ => dts_nil) (fun _ _ _ _ _ => (dv 5)) (fun _ _ _ _ _ => de_bl)))
    (dss_cons (ds_set 6 nd_Seeing_knows (de_dcN (w := w) rfl (hu65 B.room) rfl nd_Seeing_knows (di_lst (dv 3)) (blkOk_by (own := [("run", 5)]) (N := N_Seeing_knows) (sc := defScope st_Seeing_knows) (by decide +kernel)) (fun _ _ _ _ _ => pg_name (i := 5) nd_Seeing_knows rfl (Or.inl rfl)) (fun _ _ _ _ _ => (dts_one (dt_cmp (od_ninN (w := w) rfl (hu65 B.blk.room)) (dv 5) (dv 4) rfl))) (fun _ _ _ _ _ => (de_get B.blk.units1 (de_nget (w := w) rfl (hu65 B.blk.room) (de_fldK K rfl (dv 0)) (dv 5)) (dv 1))) (fun _ _ _ _ _ => de_bl)))
    (dss_one (ds_ret (de_lc rfl nd_Seeing_knows (di_lst (dv 3)) (blkOk_by (own := [("run", 5)]) (N := N_Seeing_knows) (sc := defScope st_Seeing_knows) (by decide +kernel)) (fun _ _ _ _ _ => pg_name (i := 5) nd_Seeing_knows rfl (Or.inl rfl)) (fun _ _ _ _ _ => (dts_one (dt_cmp (od_ninN (w := w) rfl (hu65 B.blk.room)) (de_get B.blk.units1 (de_nget (w := w) rfl (hu65 B.blk.room) (de_fldK K rfl (dv 0)) (dv 5)) (dv 1)) (dv 6) rfl))) (fun _ _ _ _ _ => (dv 5)))))))) ?_, Z.m_Seeing_knows, hb⟩, Z.c_Seeing⟩
  rintro ds S Q E hl ⟨a, n, pa, pb, k, who, good, rs, rfl, hs, hrs, hg, hr, hq⟩
  rw [show startD N_Seeing_knows [.ref a, .str (whoT who), .lst (good.map runD), .lst (rs.map runD)] = [some (.ref a), some (.str (whoT who)), some (.lst (good.map runD)), some (.lst (rs.map runD)), none, none, none] from rfl]
  clear hl
  have p5 := of_eq_true (pl_seen Z)
  refine seq_cut (fun ρ S1 => ∃ mp kvs, S mp = none ∧ SetR kvs good ∧ ρ = [some (.ref a), some (.str (whoT who)), some (.lst (good.map runD)), some (.lst (rs.map runD)), some (.ref mp), none, none] ∧ S1 = sup S mp (.dn w mp kvs)) (fun Rest hR => ?_) ?_
  · refine ⟨_, rfl, ?_⟩
    show dnR 5 tdYes _ _ _ (good.map runD) [] S _
    refine dnR_set runD (fun r => r) (fun _ => true) good [] [] (fun x _ Q' q => q) (fun x _ Q' q => ⟨_, rfl, q⟩) (fun x _ Q' q => q) (by show 0 + _ ≤ _; omega) SetR.nil fun kvs hk mp hmp => ?_
    refine hR _ _ ⟨mp, kvs, hmp, ?_, rfl, rfl⟩
    rw [List.nil_append, List.map_id', List.filter_eq_self.mpr (fun _ _ => rfl)] at hk
    exact hk
  rintro ρ S1 ⟨mp, kvs, hmp, hset, rfl, rfl⟩
  have hsub : Sub S (sup S mp (.dn w mp kvs)) := Sub.new hmp
  have hs1 := hs.sub hsub
  have hm1 : sup S mp (.dn w mp kvs) mp = some (.dn w mp kvs) := sup_same
  generalize sup S mp (.dn w mp kvs) = S1 at *
  have key : ∀ (S1 : Store) (ρ : Rho), SeeOk w K n pa pb k a S1 → ρ[0]? = some (some (.ref a)) → ρ[1]? = some (some (.str (whoT who))) → 5 < ρ.length → ∀ r ∈ rs, ∀ Q' : D → Store → Prop, Q' (runD (sees n pa pb who r)) S1 →
      tdGet (tdNGet w (tdFldC K (tdV 0) "seen") (tdV 5)) (tdV 1) (ρ.set 5 (some (runD r))) S1 Q' := by
    intro S1 ρ hs e0 e1 e5 r hr Q' q
    obtain ⟨kp, sp, kvk, kvs, h1, h2, h3, h4, h5⟩ := hs.ex
    obtain ⟨y, p, kv, k1, k2, k3⟩ := h5 r (hrs r hr)
    exact ⟨_, by rw [List.getElem?_set_ne (by decide)]; exact e0, a, _, _, _, rfl, h1, p5, rfl, _, by rw [List.getElem?_set_self e5], sp, kvs, runK r, y, _, rfl, h3, run_key r, k1, _, by rw [List.getElem?_set_ne (by decide)]; exact e1, p, kv, .inr (whoT who), _, rfl, k2, rfl, k3 who, q⟩
  refine seq_cut (fun ρ S2 => ∃ dp kvd, S1 dp = none ∧ SetR kvd ((rs.filter fun q => !decide (q ∈ good)).map (sees n pa pb who)) ∧ ρ = [some (.ref a), some (.str (whoT who)), some (.lst (good.map runD)), some (.lst (rs.map runD)), some (.ref mp), none, some (.ref dp)] ∧ S2 = sup S1 dp (.dn w dp kvd)) (fun Rest hR => ?_) ?_
  · refine ⟨_, rfl, ?_⟩
    show dnR 5 _ _ _ _ (rs.map runD) [] S1 _
    refine dnR_set runD (sees n pa pb who) (fun q => !decide (q ∈ good)) rs [] [] (fun x _ Q' q => ?_) (fun x hx Q' q => by
      refine key S1 _ hs1 ?_ ?_ ?_ x hx Q' q
      · rfl
      · rfl
      · show 5 < 7; decide) (fun x _ Q' q => q) (by show 0 + _ ≤ _; omega) SetR.nil fun kvs hk dp hdp => ?_
    · refine ⟨_, rfl, _, rfl, mp, kvs, runK x, rfl, hm1, run_key x, _, rfl, ?_⟩
      rw [hset x]
      exact q
    · exact hR _ _ ⟨dp, kvs, hdp, hk, rfl, rfl⟩
  rintro ρ S2 ⟨dp, kvd, hdp, hsetd, rfl, rfl⟩
  have hsub2 : Sub S1 (sup S1 dp (.dn w dp kvd)) := Sub.new hdp
  have hs2 := hs1.sub hsub2
  have hd2 : sup S1 dp (.dn w dp kvd) dp = some (.dn w dp kvd) := sup_same
  generalize sup S1 dp (.dn w dp kvd) = S2 at *
  refine ⟨_, rfl, ?_⟩
  show lcR 5 _ _ _ (rs.map runD) [] S2 _
  refine lcR_fil runD runD (fun r => !decide (sees n pa pb who r ∈ (rs.filter fun q => !decide (q ∈ good)).map (sees n pa pb who))) rs [] S2 (fun r hr Q' q => ?_) (fun r _ Q' q => ⟨_, rfl, q⟩) (by show 0 + _ ≤ _; omega) ?_
  · refine key S2 _ hs2 ?_ ?_ ?_ r hr _ ⟨_, rfl, dp, kvd, runK (sees n pa pb who r), rfl, hd2, run_key _, _, rfl, ?_⟩
    · rfl
    · rfl
    · show 5 < 7; decide
    rw [hsetd (sees n pa pb who r)]
    exact q
  · rw [List.nil_append]
    rw [kn_eq] at hq
    exact fini' (Sub.tr hsub hsub2) hq
end K06
namespace K06
open PySem PySem.Spec L2 DL
local macro_rules | `(tactic| walk_at "nd") => `(tactic| simp only [icO, isN0, gCatB, gEq_bb, tdLcB, tdDNew, tdNNew, tdNGet, tdNPut, tdFGet, tdiF, tdDctF, tdDc, tdDcN, tdTru, tdDAugG, tdDictZ, tdCallV, tdLc2, ln_4, ln_5, ln_6, fmod_2, fdiv_2, gAddT, tdIdx, gdUnl, tdiD, gSortI, gMin2, gMax2, gTuple, gDictP, tdLcT, lcT, setD, unsetD, tdKGet, tdKGet2, tdGet2, tdPop, tdSeq, tdAsg, tdV, gdName, tdAnd, tdOr, tdNot, tdB, tdOp, tdCB, tdCons, tdNil, tdC, tdAug, tdSl, tdP, tdRet, tdTup, tdIf, tdIfS, gOrd, gI0, gI, gLen, gIx, gAdd, gInt, vw, ixP, gSl, tdDrop, tdRetN, tdNext, gIn_sc, gIn_ts, gIn_ls, gIn_t2, gIn_l2, gIn_l4, tdApp, sl_0, sl_1, sl_2, sl_3, sl_4, sl_5, ff, tt', true_and, id,
  eqS, tdFor, tdiT, tdiL, tdiR, tdXp, gList, gEq_ns, tdJoin, gJoin, vwS, gMul, gMod, gDiv, gPow, gI, tdAugS, gdSub, gSet, ixN_2, ixN_3, atI_3, atI_4, gEq_ss, gEq_ii, tdDict, tdPairs, tdNeg, Option.isNone_none, Option.isNone_some, gIsi, tdGet, tdDPut, tdDAug, tdIsN, tdNotN, DO.dic.injEq, Option.isNone_none, Option.isNone_some, gIn_l2, gIn_t2, Option.getD_some, tdLc, gMax, tdNoP, forR, tdRaise, tdCall, tdNotV, tdAndV, tdOrV, tdBox, tdZ, gdTup, gdCons, gdNil, tdBreak, tdCont, tdYes, icast, icast1, icast2, icast3, tdLst, gIn_l4, icastL, icastE, icastZ, ln_0, ln_1, ln_2, ln_3,
  List.getElem?_cons_zero, List.getElem?_cons_succ, List.set_cons_zero, List.set_cons_succ, Option.some.injEq, exists_eq_left', exists_eq_left, D.bl.injEq, decide_eq_true_eq,
  tdFldC, tdMeth, tdMake, tdPutF, tdAugF, D.ref.injEq, DO.ins.injEq, and_assoc, DL.gSub, D.int.injEq, D.str.injEq, sup_same, eq_self, not_true_eq_false, not_false_eq_true, Bool.false_eq_true, Bool.not_eq_true, decide_not, atIn, atI_0, atI_1, atI_2, List.getElem?_map, Option.map_some, Option.map_none, decide_true, decide_false, Bool.not_true, Bool.not_false, if_true, if_false, lm_0, lm_1, lm_2, List.length_map, exists_and_left, *])
variable {P : Program} {w : World} {K : PySem.W.Frag} {mg : Str → Option Value} {base : Heap}
theorem hasD_val {kvs : List (DK × D)} {k : DK} {d : D} (h : valD kvs k = some d) : hasD kvs k = true := by
  induction kvs with
  | nil => cases h
  | cons p r ih =>
    obtain ⟨k', d'⟩ := p
    show (if k' = k then true else hasD r k) = true
    have h : (if k' = k then some d' else valD r k) = some d := h
    by_cases e : k' = k
    · rw [if_pos e]
    · rw [if_neg e] at h ⊢
      exact ih h
theorem runs_ne (m k : Nat) : ∃ r l, runsB m k = r :: l := by
  cases h : runsB m k with
  | nil =>
    have := congrArg List.length h
    rw [runsB_len] at this
    have h2 : 0 < (2 ^ m) ^ k := Nat.pow_pos (Nat.pow_pos (by decide))
    rw [this] at h2
    exact absurd h2 (by decide)
  | cons r l => exact ⟨r, l, rfl⟩
def m_check (w : World) (K : PySem.W.Frag) (m : Nat) : M := fun ds S Q E => ∃ (a : Addr) (n : Net) (pa pb : List Nat) (k : Nat) (c : Cl), ds = [.ref a, c.d] ∧ SeeOk w K n pa pb k a S ∧ c.ok n.fs.length ∧ c.dp < m ∧ Q .non S
theorem vac_check (Z : Zf P w K mg base) (k : Nat) : Me P w K mg base k (SeC K) "check" ["self", "claim"] (m_check w K 0) := by
  obtain ⟨fd, F, hb⟩ := Z.F_Seeing_check
  exact ⟨⟨_, fd, df_vac fun _ _ _ _ ⟨_, _, _, _, _, _, _, _, _, h, _⟩ => by omega, Z.m_Seeing_check, hb⟩, Z.c_Seeing⟩
theorem d_check (Z : Zf P w K mg base) (m : Nat) (G : Me P w K mg base (1 + m) (SeC K) "check" ["self", "claim"] (m_check w K m)) : Me P w K mg base (1 + m + 1) (SeC K) "check" ["self", "claim"] (m_check w K (m + 1)) := by
  obtain ⟨fd, F, hb⟩ := Z.F_Seeing_check
  refine ⟨⟨_, fd, df_of (k := 1 + m) F sc_Seeing_check (fun cdv A outer s H E F0 E' B => (dss_one (ds_if (dt_cmp (od_eq B.units) (de_ix (dv 1) de_int) de_str rfl) (dss_one (ds_if (dt_cmp (od_ninK (hu65 B.room)) (de_ix (dv 1) de_int) (de_nget (w := w) rfl (hu65 B.room) (de_fldK K rfl (dv 0)) (de_ix (de_fldK K rfl (dv 0)) de_int)) rfl) dss_never dss_nil)) (dss_one (ds_if (dt_cmp (od_eq B.units) (de_ix (dv 1) de_int) de_str rfl) (dss_cons (ds_expr (de_me (dv 0) (d_Seeing_observer Z) (B.mono (by omega)) (da_cons (de_ix (dv 1) de_int) da_nil)))
    (dss_one (ds_expr (de_me (dv 0) G (B.mono (by omega)) (da_cons (de_ix (dv 1) de_int) da_nil))))) (dss_one (ds_for (passes_of rfl) rfl (di_tup (de_sl (dv 1) (do_some de_int) do_none)) (dg_name 2 nd_Seeing_check) (dss_one (ds_expr (de_me (dv 0) G (B.mono (by omega)) (da_cons (dv 2) da_nil))))))))))) ?_, Z.m_Seeing_check, hb⟩, Z.c_Seeing⟩
  rintro ds S Q E hl ⟨a, n, pa, pb, k, c, rfl, hs, hok, hdp, hq⟩
  clear hl
  have hq := fini hq
  have hG : ∀ (c' : Cl) (Q' : D → Store → Prop), c'.ok n.fs.length → c'.dp < m → Q' .non S → m_check w K m [.ref a, c'.d] S Q' E := fun c' Q' h1 h2 q => ⟨a, n, pa, pb, k, c', rfl, hs, h1, h2, q⟩
  have pk := of_eq_true (pl_known Z)
  have pr := of_eq_true (pl_runs Z)
  obtain ⟨kp, sp, kvk, kvs, h1, h2, h3, h4, h5⟩ := hs.ex
  have hlk : (fldD K n pa pb (runsB n.ni k) kp sp).lookup ("check" : Str) = none := rfl
  have hlo : (fldD K n pa pb (runsB n.ni k) kp sp).lookup ("observer" : Str) = none := rfl
  cases c with
  | word i =>
    rw [show startD N_Seeing_check [.ref a, (Cl.word i).d] = [some (.ref a), some (.tup [.str (tx "word"), .str (rgT i)]), none] from rfl]
    obtain ⟨r0, l0, e0⟩ := runs_ne n.ni k
    obtain ⟨y, p, kv, k1, k2, k3⟩ := h4 r0 (by rw [e0]; exact List.mem_cons_self)
    have hv := hasD_val (k3 i hok)
    refine ifS_cut true (fun Q' q => ⟨_, rfl, _, rfl, _, rfl, q⟩) (fun _ => ?_) (fun h => by cases h)
    refine ifS_cut false (fun Q' q => ?_) (fun h => by cases h) (fun _ => hq)
    refine ⟨_, rfl, _, rfl, _, rfl, a, _, _, _, rfl, h1, pk, rfl, _, rfl, a, _, _, _, rfl, h1, pr, rfl, runD r0, ?_, kp, kvk, runK r0, y, _, rfl, h2, run_key r0, k1, p, kv, .inr (rgT i), rfl, k2, rfl, _, rfl, ?_⟩
    · rw [e0]
      show atI ((r0 :: l0).map runD) 0 = _
      rw [atI_0]
      rfl
    · rw [hv]; exact q
  | non =>
    rw [show startD N_Seeing_check [.ref a, Cl.non.d] = [some (.ref a), some (.tup [.str (tx "none")]), none] from rfl]
    refine ifS_cut false (fun Q' q => ⟨_, rfl, _, rfl, _, rfl, q⟩) (fun h => by cases h) (fun _ => ?_)
    refine ifS_cut false (fun Q' q => ⟨_, rfl, _, rfl, _, rfl, q⟩) (fun h => by cases h) (fun _ => ?_)
    refine ⟨_, rfl, fun z => absurd z.1 (by decide), ?_⟩
    show forR _ _ _ [] _ S
    unfold forR
    exact hq
  | two o x y =>
    have hd : max x.dp y.dp + 1 < m + 1 := hdp
    rw [show startD N_Seeing_check [.ref a, (Cl.two o x y).d] = [some (.ref a), some (.tup [.str o.t, x.d, y.d]), none] from rfl]
    refine ifS_cut false (fun Q' q => ⟨_, rfl, _, rfl, _, by cases o <;> rfl, q⟩) (fun h => by cases h) (fun _ => ?_)
    refine ifS_cut false (fun Q' q => ⟨_, rfl, _, rfl, _, by cases o <;> rfl, q⟩) (fun h => by cases h) (fun _ => ?_)
    refine ⟨_, rfl, fun z => absurd z.1 (by show ¬ HT.sIx 3 0 (some 1) = 0; decide), ?_⟩
    show forR _ _ _ [x.d, y.d] _ S
    unfold forR
    refine ⟨_, rfl, a, _, rfl, h1, hlk, _, rfl, rfl, hG x _ hok.1 (by omega) ?_⟩
    dsimp only
    unfold forR
    refine ⟨_, rfl, a, _, rfl, h1, hlk, _, rfl, rfl, hG y _ hok.2 (by omega) ?_⟩
    dsimp only
    unfold forR
    exact hq
  | knows w0 x =>
    have hd : x.dp + 1 < m + 1 := hdp
    rw [show startD N_Seeing_check [.ref a, (Cl.knows w0 x).d] = [some (.ref a), some (.tup [.str (tx "knows"), .str (whoT w0), x.d]), none] from rfl]
    refine ifS_cut false (fun Q' q => ⟨_, rfl, _, rfl, _, rfl, q⟩) (fun h => by cases h) (fun _ => ?_)
    refine ifS_cut true (fun Q' q => ⟨_, rfl, _, rfl, _, rfl, q⟩) (fun _ => ?_) (fun h => by cases h)
    refine ⟨_, rfl, a, _, rfl, h1, hlo, _, rfl, _, rfl, rfl, a, n, pa, pb, k, w0, rfl, hs, ?_⟩
    exact ⟨_, rfl, a, _, rfl, h1, hlk, _, rfl, _, rfl, rfl, hG x _ hok (by omega) hq⟩
  | told x y =>
    have hd : max x.dp y.dp + 1 < m + 1 := hdp
    rw [show startD N_Seeing_check [.ref a, (Cl.told x y).d] = [some (.ref a), some (.tup [.str (tx "told"), x.d, y.d]), none] from rfl]
    refine ifS_cut false (fun Q' q => ⟨_, rfl, _, rfl, _, rfl, q⟩) (fun h => by cases h) (fun _ => ?_)
    refine ifS_cut false (fun Q' q => ⟨_, rfl, _, rfl, _, rfl, q⟩) (fun h => by cases h) (fun _ => ?_)
    refine ⟨_, rfl, fun z => absurd z.1 (by show ¬ HT.sIx 3 0 (some 1) = 0; decide), ?_⟩
    show forR _ _ _ [x.d, y.d] _ S
    unfold forR
    refine ⟨_, rfl, a, _, rfl, h1, hlk, _, rfl, rfl, hG x _ hok.1 (by omega) ?_⟩
    dsimp only
    unfold forR
    refine ⟨_, rfl, a, _, rfl, h1, hlk, _, rfl, rfl, hG y _ hok.2 (by omega) ?_⟩
    dsimp only
    unfold forR
    exact hq
theorem checks (Z : Zf P w K mg base) : ∀ m : Nat, Me P w K mg base (1 + m) (SeC K) "check" ["self", "claim"] (m_check w K m)
  | 0 => vac_check Z _
  | m + 1 => d_check Z m (checks Z m)
end K06
namespace K06
open PySem PySem.Spec L2 DL
local macro_rules | `(tactic| walk_at "nd") => `(tactic| simp only [icO, isN0, gCatB, gEq_bb, tdLcB, tdDNew, tdNNew, tdNGet, tdNPut, tdFGet, tdiF, tdDctF, tdDc, tdDcN, tdTru, tdDAugG, tdDictZ, tdCallV, tdLc2, ln_4, ln_5, ln_6, fmod_2, fdiv_2, gAddT, tdIdx, gdUnl, tdiD, gSortI, gMin2, gMax2, gTuple, gDictP, tdLcT, lcT, setD, unsetD, tdKGet, tdKGet2, tdGet2, tdPop, tdSeq, tdAsg, tdV, gdName, tdAnd, tdOr, tdNot, tdB, tdOp, tdCB, tdCons, tdNil, tdC, tdAug, tdSl, tdP, tdRet, tdTup, tdIf, tdIfS, gOrd, gI0, gI, gLen, gIx, gAdd, gInt, vw, ixP, gSl, tdDrop, tdRetN, tdNext, gIn_sc, gIn_ts, gIn_ls, gIn_t2, gIn_l2, gIn_l4, tdApp, sl_0, sl_1, sl_2, sl_3, sl_4, sl_5, ff, tt', true_and, id,
  eqS, tdFor, tdiT, tdiL, tdiR, tdXp, gList, gEq_ns, tdJoin, gJoin, vwS, gMul, gMod, gDiv, gPow, gI, tdAugS, gdSub, gSet, ixN_2, ixN_3, atI_3, atI_4, gEq_ss, gEq_ii, tdDict, tdPairs, tdNeg, Option.isNone_none, Option.isNone_some, gIsi, tdGet, tdDPut, tdDAug, tdIsN, tdNotN, DO.dic.injEq, Option.isNone_none, Option.isNone_some, gIn_l2, gIn_t2, Option.getD_some, tdLc, gMax, tdNoP, forR, tdRaise, tdCall, tdNotV, tdAndV, tdOrV, tdBox, tdZ, gdTup, gdCons, gdNil, tdBreak, tdCont, tdYes, icast, icast1, icast2, icast3, tdLst, gIn_l4, icastL, icastE, icastZ, ln_0, ln_1, ln_2, ln_3,
  List.getElem?_cons_zero, List.getElem?_cons_succ, List.set_cons_zero, List.set_cons_succ, Option.some.injEq, exists_eq_left', exists_eq_left, D.bl.injEq, decide_eq_true_eq,
  tdFldC, tdMeth, tdMake, tdPutF, tdAugF, D.ref.injEq, DO.ins.injEq, and_assoc, DL.gSub, D.int.injEq, D.str.injEq, sup_same, eq_self, not_true_eq_false, not_false_eq_true, Bool.false_eq_true, Bool.not_eq_true, decide_not, atIn, atI_0, atI_1, atI_2, List.getElem?_map, Option.map_some, Option.map_none, decide_true, decide_false, Bool.not_true, Bool.not_false, if_true, if_false, lm_0, lm_1, lm_2, List.length_map, exists_and_left, *])
variable {P : Program} {w : World} {K : PySem.W.Frag} {mg : Str → Option Value} {base : Heap}
section
variable {R L : Type} [DecidableEq R] [DecidableEq L] {val : R → List Bool} {look : Bool → R → L}
theorem wh_le : ∀ (c : Cl) (rs : List R), (wh val look c rs).length ≤ rs.length
  | .word i, rs => List.length_filter_le _ _
  | .non, rs => Nat.zero_le _
  | .knows w a, rs => List.length_filter_le _ _
  | .told a b, rs => List.length_filter_le _ _
  | .two .and a b, rs => List.length_filter_le _ _
  | .two .or a b, rs => List.length_filter_le _ _
  | .two .imp a b, rs => List.length_filter_le _ _
theorem wh_told_eq {a b : Cl} {rs : List R} {p : R → Bool} (hp : ∀ r, p r = true ↔ (¬ r ∈ wh val look a rs ∨ r ∈ wh val look b (wh val look a rs))) : wh val look (.told a b) rs = rs.filter p := by
  show rs.filter (fun r => !decide (r ∈ wh val look a rs) || decide (r ∈ wh val look b (wh val look a rs))) = _
  exact List.filter_congr fun r _ => bool_iff (by rw [hp, Bool.or_eq_true, ndec_iff, decide_eq_true_eq])
theorem wh_imp_eq {a b : Cl} {rs : List R} {p : R → Bool} (hp : ∀ r, p r = true ↔ (¬ r ∈ wh val look a rs ∨ r ∈ wh val look b rs)) : wh val look (.two .imp a b) rs = rs.filter p := by
  show rs.filter (fun r => !decide (r ∈ wh val look a rs) || decide (r ∈ wh val look b rs)) = _
  exact List.filter_congr fun r _ => bool_iff (by rw [hp, Bool.or_eq_true, ndec_iff, decide_eq_true_eq])
theorem wh_or_eq {a b : Cl} {rs : List R} {p : R → Bool} (hp : ∀ r, p r = true ↔ (r ∈ wh val look a rs ∨ r ∈ wh val look b rs)) : wh val look (.two .or a b) rs = rs.filter p := by
  show rs.filter (fun r => decide (r ∈ wh val look a rs) || decide (r ∈ wh val look b rs)) = _
  exact List.filter_congr fun r _ => bool_iff (by rw [hp, Bool.or_eq_true, decide_eq_true_eq, decide_eq_true_eq])
theorem wh_and_eq {a b : Cl} {rs : List R} {p : R → Bool} (hp : ∀ r, p r = true ↔ (r ∈ wh val look a rs ∧ r ∈ wh val look b rs)) : wh val look (.two .and a b) rs = rs.filter p := by
  show rs.filter (fun r => decide (r ∈ wh val look a rs) && decide (r ∈ wh val look b rs)) = _
  exact List.filter_congr fun r _ => bool_iff (by rw [hp, Bool.and_eq_true, decide_eq_true_eq, decide_eq_true_eq])
end
theorem or_go {ta tb : TDT} {ρ : Rho} {S : Store} {Q : Bool → Store → Prop} {b1 b2 : Bool} (h1 : ∀ Q' : Bool → Store → Prop, Q' b1 S → ta ρ S Q') (h2 : ∀ Q' : Bool → Store → Prop, Q' b2 S → tb ρ S Q') (q : Q (b1 || b2) S) : tdOr ta tb ρ S Q := by
  refine h1 _ ?_
  cases b1 with
  | true => exact iteT q
  | false => exact iteF (h2 _ q)
theorem and_go {ta tb : TDT} {ρ : Rho} {S : Store} {Q : Bool → Store → Prop} {b1 b2 : Bool} (h1 : ∀ Q' : Bool → Store → Prop, Q' b1 S → ta ρ S Q') (h2 : ∀ Q' : Bool → Store → Prop, Q' b2 S → tb ρ S Q') (q : Q (b1 && b2) S) : tdAnd ta tb ρ S Q := by
  refine h1 _ ?_
  cases b1 with
  | true => exact iteT (h2 _ q)
  | false => exact iteF q
/-- x in a table of runs -/
theorem in_go {f : Bool → Bool} {i j : Nat} {ρ : Rho} {S : Store} {r : Run} {mp : Addr} {kvs : List (NestedKey × D × D)} {l : List Run} {Q : Bool → Store → Prop} (hi : ρ[i]? = some (some (runD r))) (hj : ρ[j]? = some (some (.ref mp))) (h : S mp = some (.dn w mp kvs)) (hs : SetR kvs l)
    (q : Q (f (decide (r ∈ l))) S) : tdB (tdOp (gNIn w f) (tdV i) (tdV j)) ρ S Q := by
  refine ⟨_, hi, _, hj, mp, kvs, runK r, rfl, h, run_key r, _, rfl, ?_⟩
  rw [hs r]
  exact q
def nonD : D := .tup [.str (tx "none")]
theorem Cl.pure (c : Cl) : c.d.pure = true := by
  induction c with
  | word i => rfl
  | non => rfl
  | two o a b ha hb => show (true && (a.d.pure && (b.d.pure && true))) = true; rw [ha, hb]; rfl
  | knows w a ha => show (true && (true && (a.d.pure && true))) = true; rw [ha]; rfl
  | told a b ha hb => show (true && (a.d.pure && (b.d.pure && true))) = true; rw [ha, hb]; rfl
theorem eqv_hd {a b : PyData} {as bs : List PyData} (h : PyData.eqv a b = false) : PyData.eqv (.tuple (a :: as)) (.tuple (b :: bs)) = false := by
  show (PyData.eqv a b && PyData.eqvAll as bs) = false
  rw [h]
  rfl
theorem non_eqv {c : Cl} (h : c ≠ .non) : PyData.eqv c.d.data nonD.data = false := by
  cases c with
  | non => exact absurd rfl h
  | word i => exact eqv_hd (a := (D.str (tx "word")).data) (b := (D.str (tx "none")).data) (by decide +kernel)
  | two o a b => exact eqv_hd (a := (D.str o.t).data) (b := (D.str (tx "none")).data) (by cases o <;> decide +kernel)
  | knows w a => exact eqv_hd (a := (D.str (tx "knows")).data) (b := (D.str (tx "none")).data) (by decide +kernel)
  | told a b => exact eqv_hd (a := (D.str (tx "told")).data) (b := (D.str (tx "none")).data) (by decide +kernel)
theorem rg_ok {i : Nat} (h : i < 4) : PyData.canLay0 (D.str (rgT i)).data = true := by
  obtain rfl | rfl | rfl | rfl : i = 0 ∨ i = 1 ∨ i = 2 ∨ i = 3 := by omega
  all_goals decide +kernel
theorem Cl.lay {m : Nat} (hm : m ≤ 4) : ∀ c : Cl, c.ok m → PyData.canLay0 c.d.data = true ∧ PyData.depth c.d.data ≤ c.dp + 1
  | .word i, h => by
    have h : i < m := h
    have := rg_ok (i := i) (by omega)
    refine ⟨?_, Nat.le_refl _⟩
    show (PyData.canLay0 (D.str (tx "word")).data && (PyData.canLay0 (D.str (rgT i)).data && true)) = true
    rw [this, show PyData.canLay0 (D.str (tx "word")).data = true from by decide +kernel]
    rfl
  | .non, _ => ⟨by decide +kernel, Nat.le_refl _⟩
  | .two o a b, h => by
    obtain ⟨a1, a2⟩ := Cl.lay hm a h.1
    obtain ⟨b1, b2⟩ := Cl.lay hm b h.2
    refine ⟨?_, ?_⟩
    · show (PyData.canLay0 (D.str o.t).data && (PyData.canLay0 a.d.data && (PyData.canLay0 b.d.data && true))) = true
      rw [a1, b1, show PyData.canLay0 (D.str o.t).data = true from by cases o <;> decide +kernel]
      rfl
    · show max 0 (max a.d.data.depth (max b.d.data.depth 0)) + 1 ≤ max a.dp b.dp + 1 + 1
      omega
  | .knows w a, h => by
    obtain ⟨a1, a2⟩ := Cl.lay hm a h
    refine ⟨?_, ?_⟩
    · show (PyData.canLay0 (D.str (tx "knows")).data && (PyData.canLay0 (D.str (whoT w)).data && (PyData.canLay0 a.d.data && true))) = true
      rw [a1, show PyData.canLay0 (D.str (tx "knows")).data = true from by decide +kernel, show PyData.canLay0 (D.str (whoT w)).data = true from by cases w <;> decide +kernel]
      rfl
    · show max 0 (max 0 (max a.d.data.depth 0)) + 1 ≤ a.dp + 1 + 1
      omega
  | .told a b, h => by
    obtain ⟨a1, a2⟩ := Cl.lay hm a h.1
    obtain ⟨b1, b2⟩ := Cl.lay hm b h.2
    refine ⟨?_, ?_⟩
    · show (PyData.canLay0 (D.str (tx "told")).data && (PyData.canLay0 a.d.data && (PyData.canLay0 b.d.data && true))) = true
      rw [a1, b1, show PyData.canLay0 (D.str (tx "told")).data = true from by decide +kernel]
      rfl
    · show max 0 (max a.d.data.depth (max b.d.data.depth 0)) + 1 ≤ max a.dp b.dp + 1 + 1
      omega
/-- claim == NONE -/
theorem non_go {c : Cl} {m : Nat} {S : Store} {Q : D → Store → Prop} (hm : m ≤ 4) (hc : c.ok m) (hd : c.dp ≤ 60) (hn : c ≠ .non) (q : Q (.bl false) S) : gEq id S c.d nonD Q := by
  obtain ⟨h1, h2⟩ := Cl.lay hm c hc
  have hs : SeqAt.shaped c.d.data = true := by
    unfold SeqAt.shaped
    rw [h1, decide_eq_true (by omega)]
    rfl
  have he := non_eqv hn
  have hp := Cl.pure c
  have hv : vw S c.d = c.d := by cases c <;> rfl
  have hx : eqS c.d nonD = none := by cases c <;> rfl
  unfold gEq
  rw [hx, hv]
  show _ ∧ nonD.pure = true ∧ _ ∧ SeqAt.shaped nonD.data = true ∧ Q (.bl (id (PyData.eqv c.d.data nonD.data))) S
  rw [he]
  exact ⟨hp, rfl, hs, by decide +kernel, q⟩
theorem non_go' {S : Store} {Q : D → Store → Prop} (q : Q (.bl true) S) : gEq id S Cl.non.d nonD Q := by
  unfold gEq
  rw [show eqS Cl.non.d nonD = none from rfl]
  exact ⟨rfl, rfl, by show SeqAt.shaped nonD.data = true; decide +kernel, by show SeqAt.shaped nonD.data = true; decide +kernel, q⟩
end K06
namespace K06
open PySem PySem.Spec L2 DL
local macro_rules | `(tactic| walk_at "nd") => `(tactic| simp only [icO, isN0, gCatB, gEq_bb, tdLcB, tdDNew, tdNNew, tdNGet, tdNPut, tdFGet, tdiF, tdDctF, tdDc, tdDcN, tdTru, tdDAugG, tdDictZ, tdCallV, tdLc2, ln_4, ln_5, ln_6, fmod_2, fdiv_2, gAddT, tdIdx, gdUnl, tdiD, gSortI, gMin2, gMax2, gTuple, gDictP, tdLcT, lcT, setD, unsetD, tdKGet, tdKGet2, tdGet2, tdPop, tdSeq, tdAsg, tdV, gdName, tdAnd, tdOr, tdNot, tdB, tdOp, tdCB, tdCons, tdNil, tdC, tdAug, tdSl, tdP, tdRet, tdTup, tdIf, tdIfS, gOrd, gI0, gI, gLen, gIx, gAdd, gInt, vw, ixP, gSl, tdDrop, tdRetN, tdNext, gIn_sc, gIn_ts, gIn_ls, gIn_t2, gIn_l2, gIn_l4, tdApp, sl_0, sl_1, sl_2, sl_3, sl_4, sl_5, ff, tt', true_and, id,
  eqS, tdFor, tdiT, tdiL, tdiR, tdXp, gList, gEq_ns, tdJoin, gJoin, vwS, gMul, gMod, gDiv, gPow, gI, tdAugS, gdSub, gSet, ixN_2, ixN_3, atI_3, atI_4, gEq_ss, gEq_ii, tdDict, tdPairs, tdNeg, Option.isNone_none, Option.isNone_some, gIsi, tdGet, tdDPut, tdDAug, tdIsN, tdNotN, DO.dic.injEq, Option.isNone_none, Option.isNone_some, gIn_l2, gIn_t2, Option.getD_some, tdLc, gMax, tdNoP, forR, tdRaise, tdCall, tdNotV, tdAndV, tdOrV, tdBox, tdZ, gdTup, gdCons, gdNil, tdBreak, tdCont, tdYes, icast, icast1, icast2, icast3, tdLst, gIn_l4, icastL, icastE, icastZ, ln_0, ln_1, ln_2, ln_3,
  List.getElem?_cons_zero, List.getElem?_cons_succ, List.set_cons_zero, List.set_cons_succ, Option.some.injEq, exists_eq_left', exists_eq_left, D.bl.injEq, decide_eq_true_eq,
  tdFldC, tdMeth, tdMake, tdPutF, tdAugF, D.ref.injEq, DO.ins.injEq, and_assoc, DL.gSub, D.int.injEq, D.str.injEq, sup_same, eq_self, not_true_eq_false, not_false_eq_true, Bool.false_eq_true, Bool.not_eq_true, decide_not, atIn, atI_0, atI_1, atI_2, List.getElem?_map, Option.map_some, Option.map_none, decide_true, decide_false, Bool.not_true, Bool.not_false, if_true, if_false, lm_0, lm_1, lm_2, List.length_map, exists_and_left, *])
variable {P : Program} {w : World} {K : PySem.W.Frag} {mg : Str → Option Value} {base : Heap}
/-- the runs behind which a claim is so -/
abbrev whR (n : Net) (pa pb : List Nat) (c : Cl) (rs : List Run) : List Run := wh (n.fin n.fs) (sees n pa pb) c rs
def m_where (w : World) (K : PySem.W.Frag) (m : Nat) : M := fun ds S Q E => ∃ (a : Addr) (n : Net) (pa pb : List Nat) (k : Nat) (c : Cl) (rs : List Run), ds = [.ref a, c.d, .lst (rs.map runD)] ∧ SeeOk w K n pa pb k a S ∧ n.fs.length ≤ 4 ∧ c.ok n.fs.length ∧ c.dp < m ∧ c.dp ≤ 60 ∧
  (∀ r ∈ rs, r ∈ runsB n.ni k) ∧ rs.length ≤ 4096 ∧ Q (.lst ((whR n pa pb c rs).map runD)) S
theorem vac_where (Z : Zf P w K mg base) (k : Nat) : Me P w K mg base k (SeC K) "where" ["self", "claim", "runs"] (m_where w K 0) := by
  obtain ⟨fd, F, hb⟩ := Z.F_Seeing_where
  exact ⟨⟨_, fd, df_vac fun _ _ _ _ ⟨_, _, _, _, _, _, _, _, _, _, _, h, _⟩ => by omega, Z.m_Seeing_where, hb⟩, Z.c_Seeing⟩
theorem set_go {tk te : TD} {ρ : Rho} {S : Store} {l : List Run} {Q : List (NestedKey × D × D) → Store → Prop} (h4 : 4 < ρ.length) (hl : l.length ≤ 4096) (htk : tk = tdV 4) (hte : te = tdC (.bl true)) (q : ∀ kvs, SetR kvs l → Q kvs S) :
    dnR 4 tdYes tk te ρ (l.map runD) [] S Q := by
  subst htk hte
  refine dnR_set runD (fun r => r) (fun _ => true) l [] [] (fun x _ Q' q => q) (fun x _ Q' q => ⟨_, List.getElem?_set_self h4, q⟩) (fun x _ Q' q => q) (by show 0 + _ ≤ _; omega) SetR.nil fun kvs hk => ?_
  refine q kvs ?_
  rw [List.nil_append, List.map_id', List.filter_eq_self.mpr (fun _ _ => rfl)] at hk
  exact hk
def Cl.tg : Cl → Tx
  | .word _ => tx "word"
  | .non => tx "none"
  | .two o _ _ => o.t
  | .knows _ _ => tx "knows"
  | .told _ _ => tx "told"
theorem o_t (o : Op3) : o.t ≠ tx "word" ∧ o.t ≠ tx "knows" ∧ o.t ≠ tx "told" := by cases o <;> decide
theorem tg_word {c : Cl} (h : c.tg = tx "word") : ∃ i, c = .word i := by
  cases c with
  | word i => exact ⟨i, rfl⟩
  | non => exact absurd (show tx "none" = tx "word" from h) (by decide)
  | two o _ _ => exact absurd (show o.t = tx "word" from h) (o_t o).1
  | knows _ _ => exact absurd (show tx "knows" = tx "word" from h) (by decide)
  | told _ _ => exact absurd (show tx "told" = tx "word" from h) (by decide)
theorem tg_knows {c : Cl} (h : c.tg = tx "knows") : ∃ w x, c = .knows w x := by
  cases c with
  | word i => exact absurd (show tx "word" = tx "knows" from h) (by decide)
  | non => exact absurd (show tx "none" = tx "knows" from h) (by decide)
  | two o _ _ => exact absurd (show o.t = tx "knows" from h) (o_t o).2.1
  | knows w x => exact ⟨w, x, rfl⟩
  | told _ _ => exact absurd (show tx "told" = tx "knows" from h) (by decide)
theorem tg_told {c : Cl} (h : c.tg = tx "told") : ∃ x y, c = .told x y := by
  cases c with
  | word i => exact absurd (show tx "word" = tx "told" from h) (by decide)
  | non => exact absurd (show tx "none" = tx "told" from h) (by decide)
  | two o _ _ => exact absurd (show o.t = tx "told" from h) (o_t o).2.2
  | knows w x => exact absurd (show tx "knows" = tx "told" from h) (by decide)
  | told x y => exact ⟨x, y, rfl⟩
theorem d_where (Z : Zf P w K mg base) (m : Nat) (G : Me P w K mg base (1 + m) (SeC K) "where" ["self", "claim", "runs"] (m_where w K m)) : Me P w K mg base (1 + m + 1) (SeC K) "where" ["self", "claim", "runs"] (m_where w K (m + 1)) := by
  obtain ⟨fd, F, hb⟩ := Z.F_Seeing_where
  refine ⟨⟨_, fd, df_of (k := 1 + m) F sc_Seeing_where (fun cdv A outer s H E F0 E' B => (dss_cons (ds_set 3 nd_Seeing_where (de_ix (dv 1) de_int))
    (dss_cons (ds_if (dt_cmp (od_eq B.units) (dv 3) de_str rfl) (dss_one (ds_ret (de_lc rfl nd_Seeing_where (di_lst (dv 2)) (blkOk_by (own := [("run", 4)]) (N := N_Seeing_where) (sc := defScope st_Seeing_where) (by decide +kernel)) (fun _ _ _ _ _ => pg_name (i := 4) nd_Seeing_where rfl (Or.inl rfl)) (fun _ _ _ _ _ => (dts_one (dt_val (de_get B.blk.units1 (de_nget (w := w) rfl (hu65 B.blk.room) (de_fldK K rfl (dv 0)) (dv 4)) (de_ix (dv 1) de_int))))) (fun _ _ _ _ _ => (dv 4))))) dss_nil)
    (dss_cons (ds_if (dt_cmp (od_eq B.units) (dv 1) (de_gtup Z.g_NONE Z.t_NONE (zs_NONE) rfl) rfl) (dss_one (ds_ret (de_lst da_nil))) dss_nil)
    (dss_cons (ds_if (dt_cmp (od_eq B.units) (dv 3) de_str rfl) (dss_one (ds_ret (de_me (dv 0) (d_Seeing_knows Z) (B.mono (by omega)) (da_cons (de_ix (dv 1) de_int) (da_cons (de_me (dv 0) G (B.mono (by omega)) (da_cons (de_ix (dv 1) de_int) (da_cons (dv 2) da_nil))) (da_cons (dv 2) da_nil)))))) dss_nil)
    (dss_cons (ds_set 5 nd_Seeing_where (de_me (dv 0) G (B.mono (by omega)) (da_cons (de_ix (dv 1) de_int) (da_cons (dv 2) da_nil))))
    (dss_cons (ds_if (dt_cmp (od_eq B.units) (dv 3) de_str rfl) (dss_cons (ds_set 6 nd_Seeing_where (de_if (dt_tru (dv 5)) (de_dcN (w := w) rfl (hu65 B.room) rfl nd_Seeing_where (di_lst (de_me (dv 0) G (B.mono (by omega)) (da_cons (de_ix (dv 1) de_int) (da_cons (dv 5) da_nil)))) (blkOk_by (own := [("run", 4)]) (N := N_Seeing_where) (sc := defScope st_Seeing_where) (by decide +kernel)) (fun _ _ _ _ _ => pg_name (i := 4) nd_Seeing_where rfl (Or.inl rfl)) (fun _ _ _ _ _ => dts_nil) (fun _ _ _ _ _ => (dv 4)) (fun _ _ _ _ _ => de_bl)) (de_nnew (w := w) rfl)))
    (dss_cons (ds_set 7 nd_Seeing_where (de_dcN (w := w) rfl (hu65 B.room) rfl nd_Seeing_where (di_lst (dv 5)) (blkOk_by (own := [("run", 4)]) (N := N_Seeing_where) (sc := defScope st_Seeing_where) (by decide +kernel)) (fun _ _ _ _ _ => pg_name (i := 4) nd_Seeing_where rfl (Or.inl rfl)) (fun _ _ _ _ _ => dts_nil) (fun _ _ _ _ _ => (dv 4)) (fun _ _ _ _ _ => de_bl)))
    (dss_one (ds_ret (de_lc rfl nd_Seeing_where (di_lst (dv 2)) (blkOk_by (own := [("run", 4)]) (N := N_Seeing_where) (sc := defScope st_Seeing_where) (by decide +kernel)) (fun _ _ _ _ _ => pg_name (i := 4) nd_Seeing_where rfl (Or.inl rfl)) (fun _ _ _ _ _ => (dts_one (PW.pt (dw_or (dt_cmp (od_ninN (w := w) rfl (hu65 B.blk.room)) (dv 4) (dv 7) rfl) (dw_or1 (dt_cmp (od_inN (w := w) rfl (hu65 B.blk.room)) (dv 4) (dv 6) rfl)))))) (fun _ _ _ _ _ => (dv 4))))))) dss_nil)
    (dss_cons (ds_set 8 nd_Seeing_where (de_dcN (w := w) rfl (hu65 B.room) rfl nd_Seeing_where (di_lst (de_me (dv 0) G (B.mono (by omega)) (da_cons (de_ix (dv 1) de_int) (da_cons (dv 2) da_nil)))) (blkOk_by (own := [("run", 4)]) (N := N_Seeing_where) (sc := defScope st_Seeing_where) (by decide +kernel)) (fun _ _ _ _ _ => pg_name (i := 4) nd_Seeing_where rfl (Or.inl rfl)) (fun _ _ _ _ _ => dts_nil) (fun _ _ _ _ _ => (dv 4)) (fun _ _ _ _ _ => de_bl)))
    (dss_cons (ds_set 7 nd_Seeing_where (de_dcN (w := w) rfl (hu65 B.room) rfl nd_Seeing_where (di_lst (dv 5)) (blkOk_by (own := [("run", 4)]) (N := N_Seeing_where) (sc := defScope st_Seeing_where) (by decide +kernel)) (fun _ _ _ _ _ => pg_name (i := 4) nd_Seeing_where rfl (Or.inl rfl)) (fun _ _ _ _ _ => dts_nil) (fun _ _ _ _ _ => (dv 4)) (fun _ _ _ _ _ => de_bl)))
    (dss_cons (ds_if (dt_cmp (od_eq B.units) (dv 3) de_str rfl) (dss_one (ds_ret (de_lc rfl nd_Seeing_where (di_lst (dv 2)) (blkOk_by (own := [("run", 4)]) (N := N_Seeing_where) (sc := defScope st_Seeing_where) (by decide +kernel)) (fun _ _ _ _ _ => pg_name (i := 4) nd_Seeing_where rfl (Or.inl rfl)) (fun _ _ _ _ _ => (dts_one (PW.pt (dw_and (dt_cmp (od_inN (w := w) rfl (hu65 B.blk.room)) (dv 4) (dv 7) rfl) (dw_and1 (dt_cmp (od_inN (w := w) rfl (hu65 B.blk.room)) (dv 4) (dv 8) rfl)))))) (fun _ _ _ _ _ => (dv 4))))) dss_nil)
    (dss_cons (ds_if (dt_cmp (od_eq B.units) (dv 3) de_str rfl) (dss_one (ds_ret (de_lc rfl nd_Seeing_where (di_lst (dv 2)) (blkOk_by (own := [("run", 4)]) (N := N_Seeing_where) (sc := defScope st_Seeing_where) (by decide +kernel)) (fun _ _ _ _ _ => pg_name (i := 4) nd_Seeing_where rfl (Or.inl rfl)) (fun _ _ _ _ _ => (dts_one (PW.pt (dw_or (dt_cmp (od_inN (w := w) rfl (hu65 B.blk.room)) (dv 4) (dv 7) rfl) (dw_or1 (dt_cmp (od_inN (w := w) rfl (hu65 B.blk.room)) (dv 4) (dv 8) rfl)))))) (fun _ _ _ _ _ => (dv 4))))) dss_nil)
    (dss_one (ds_ret (de_lc rfl nd_Seeing_where (di_lst (dv 2)) (blkOk_by (own := [("run", 4)]) (N := N_Seeing_where) (sc := defScope st_Seeing_where) (by decide +kernel)) (fun _ _ _ _ _ => pg_name (i := 4) nd_Seeing_where rfl (Or.inl rfl)) (fun _ _ _ _ _ => (dts_one (PW.pt (dw_or (dt_cmp (od_ninN (w := w) rfl (hu65 B.blk.room)) (dv 4) (dv 7) rfl) (dw_or1 (dt_cmp (od_inN (w := w) rfl (hu65 B.blk.room)) (dv 4) (dv 8) rfl)))))) (fun _ _ _ _ _ => (dv 4)))))))))))))))) ?_, Z.m_Seeing_where, hb⟩, Z.c_Seeing⟩
  rintro ds S Q E hl ⟨a, n, pa, pb, k, c, rs, rfl, hs, hf4, hok, hdp, hd60, hrs, hr, hq⟩
  rw [show startD N_Seeing_where [.ref a, c.d, .lst (rs.map runD)] = [some (.ref a), some c.d, some (.lst (rs.map runD)), none, none, none, none, none, none] from rfl]
  clear hl
  have pk := of_eq_true (pl_known Z)
  have hG : ∀ (c' : Cl) (rs' : List Run) (S' : Store) (Q' : D → Store → Prop), SeeOk w K n pa pb k a S' → c'.ok n.fs.length → c'.dp < m → c'.dp ≤ 60 → (∀ r ∈ rs', r ∈ runsB n.ni k) → rs'.length ≤ 4096 → Q' (.lst ((whR n pa pb c' rs').map runD)) S' → m_where w K m [.ref a, c'.d, .lst (rs'.map runD)] S' Q' E :=
    fun c' rs' S' Q' h0 h1 h2 h3 h4 h5 q => ⟨a, n, pa, pb, k, c', rs', rfl, h0, hf4, h1, h2, h3, h4, h5, q⟩
  have hlk : ∀ kp sp, (fldD K n pa pb (runsB n.ni k) kp sp).lookup ("where" : Str) = none := fun _ _ => rfl
  have hlo : ∀ kp sp, (fldD K n pa pb (runsB n.ni k) kp sp).lookup ("knows" : Str) = none := fun _ _ => rfl
  -- word = claim[0]
  obtain ⟨tg, htg⟩ : ∃ tg, tg = c.tg := ⟨_, rfl⟩
  refine seq_cut (fun ρ S1 => ρ = [some (.ref a), some c.d, some (.lst (rs.map runD)), some (.str tg), none, none, none, none, none] ∧ S = S1) (fun Rest hR => ?_) ?_
  · have hR := hR _ _ ⟨rfl, rfl⟩
    subst htg
    cases c <;> exact ⟨_, rfl, _, rfl, hR⟩
  rintro ρ S1 ⟨rfl, rfl⟩
  -- a word
  refine seq_cut (fun ρ S1 => ρ = [some (.ref a), some c.d, some (.lst (rs.map runD)), some (.str tg), none, none, none, none, none] ∧ S = S1 ∧ ∀ i, c ≠ .word i) (fun Rest hR => ?_) ?_
  · refine ifS_cut (decide (tg = tx "word")) (fun Q' q => ⟨_, rfl, _, rfl, q⟩) (fun hb => ?_) (fun hb => ?_)
    · have hb := of_decide_eq_true hb
      obtain ⟨i, rfl⟩ := tg_word (htg.symm.trans hb)
      refine ⟨_, rfl, ?_⟩
      show lcR 4 _ _ _ (rs.map runD) [] S _
      refine lcR_fil runD runD (fun r => (n.fin n.fs r).getD i false) rs [] S (fun r hr Q' q => ?_) (fun r _ Q' q => ⟨_, rfl, q⟩) (by show 0 + _ ≤ _; omega) (fini hq)
      obtain ⟨kp, sp, kvk, kvs, h1, h2, h3, h4, h5⟩ := hs.ex
      obtain ⟨y, p, kv, k1, k2, k3⟩ := h4 r (hrs r hr)
      exact ⟨_, rfl, a, _, _, _, rfl, h1, pk, rfl, _, rfl, kp, kvk, runK r, y, _, rfl, h2, run_key r, k1, _, rfl, _, rfl, p, kv, .inr (rgT i), _, rfl, k2, rfl, k3 i hok, _, rfl, q⟩
    · have hb := of_decide_eq_false hb
      refine hR _ _ ⟨rfl, rfl, fun i e => hb ?_⟩
      subst e
      exact htg
  rintro ρ S1 ⟨rfl, rfl, hnw⟩
  -- nothing
  refine seq_cut (fun ρ S1 => ρ = [some (.ref a), some c.d, some (.lst (rs.map runD)), some (.str tg), none, none, none, none, none] ∧ S = S1 ∧ c ≠ .non) (fun Rest hR => ?_) ?_
  · by_cases e : c = .non
    · subst e
      refine ifS_cut true (fun Q' q => by
        refine ⟨_, rfl, ?_⟩
        dsimp only [tdC]
        exact non_go' ⟨_, rfl, q⟩) (fun _ => ?_) (fun h => by cases h)
      exact ⟨Nat.zero_le _, fini hq⟩
    · refine ifS_cut false (fun Q' q => by
        refine ⟨_, rfl, ?_⟩
        dsimp only [tdC]
        exact non_go hf4 hok hd60 e ⟨_, rfl, q⟩) (fun h => by cases h) (fun _ => hR _ _ ⟨rfl, rfl, e⟩)
  rintro ρ S1 ⟨rfl, rfl, hnn⟩
  obtain ⟨kp, sp, kvk, kvs, h1, _⟩ := hs.ex
  -- knows
  refine seq_cut (fun ρ S1 => ρ = [some (.ref a), some c.d, some (.lst (rs.map runD)), some (.str tg), none, none, none, none, none] ∧ S = S1 ∧ ∀ w0 x, c ≠ .knows w0 x) (fun Rest hR => ?_) ?_
  · refine ifS_cut (decide (tg = tx "knows")) (fun Q' q => ⟨_, rfl, _, rfl, q⟩) (fun hb => ?_) (fun hb => ?_)
    · have hb := of_decide_eq_true hb
      obtain ⟨w0, x, rfl⟩ := tg_knows (htg.symm.trans hb)
      have hd : x.dp + 1 < m + 1 := hdp
      have hd2 : x.dp + 1 ≤ 60 := hd60
      refine ⟨_, rfl, a, _, rfl, h1, hlo _ _, _, rfl, _, rfl, _, rfl, a, _, rfl, h1, hlk _ _, _, rfl, _, rfl, _, rfl, rfl, ?_⟩
      refine hG x rs S _ hs hok (by omega) (by omega) hrs hr ⟨_, rfl, rfl, ?_⟩
      exact ⟨a, n, pa, pb, k, w0, _, rs, rfl, hs, hrs, Nat.le_trans (wh_le _ _) hr, hr, fini hq⟩
    · have hb := of_decide_eq_false hb
      refine hR _ _ ⟨rfl, rfl, fun w0 x e => hb ?_⟩
      subst e
      exact htg
  rintro ρ S1 ⟨rfl, rfl, hnk⟩
  -- both parts
  obtain ⟨x, y, hxy, hx, hy, hdx, hdy, hdx2, hdy2, hcd⟩ : ∃ x y : Cl, ((∃ o, c = .two o x y) ∨ c = .told x y) ∧ x.ok n.fs.length ∧ y.ok n.fs.length ∧ x.dp < m ∧ y.dp < m ∧ x.dp ≤ 60 ∧ y.dp ≤ 60 ∧ c.d = .tup [.str tg, x.d, y.d] := by
    cases c with
    | word i => exact absurd rfl (hnw i)
    | non => exact absurd rfl hnn
    | knows w0 x => exact absurd rfl (hnk w0 x)
    | two o x y =>
      have hd : max x.dp y.dp + 1 < m + 1 := hdp
      have hd2 : max x.dp y.dp + 1 ≤ 60 := hd60
      exact ⟨x, y, .inl ⟨o, rfl⟩, hok.1, hok.2, by omega, by omega, by omega, by omega, by rw [htg]; rfl⟩
    | told x y =>
      have hd : max x.dp y.dp + 1 < m + 1 := hdp
      have hd2 : max x.dp y.dp + 1 ≤ 60 := hd60
      exact ⟨x, y, .inr rfl, hok.1, hok.2, by omega, by omega, by omega, by omega, by rw [htg]; rfl⟩
  rw [hcd]
  have hsub1 : ∀ r ∈ whR n pa pb x rs, r ∈ runsB n.ni k := fun r hr => hrs r (wh_sub _ _ _ hr)
  have hlen1 : (whR n pa pb x rs).length ≤ 4096 := Nat.le_trans (wh_le _ _) hr
  refine seq_cut (fun ρ S1 => ρ = [some (.ref a), some (.tup [.str tg, x.d, y.d]), some (.lst (rs.map runD)), some (.str tg), none, some (.lst ((whR n pa pb x rs).map runD)), none, none, none] ∧ S = S1) (fun Rest hR => ?_) ?_
  · have hR := hR _ _ ⟨rfl, rfl⟩
    exact ⟨_, rfl, a, _, rfl, h1, hlk _ _, _, rfl, _, rfl, _, rfl, rfl, hG x rs S _ hs hx hdx hdx2 hrs hr hR⟩
  rintro ρ S1 ⟨rfl, rfl⟩
  have hone : ∃ A, A = whR n pa pb x rs := ⟨_, rfl⟩
  obtain ⟨A, hA⟩ := hone
  rw [← hA] at hsub1 hlen1 ⊢
  -- told
  refine seq_cut (fun ρ S1 => ρ = [some (.ref a), some (.tup [.str tg, x.d, y.d]), some (.lst (rs.map runD)), some (.str tg), none, some (.lst (A.map runD)), none, none, none] ∧ S = S1 ∧ ∃ o, c = .two o x y) (fun Rest hR => ?_) ?_
  · refine ifS_cut (decide (tg = tx "told")) (fun Q' q => ⟨_, rfl, _, rfl, q⟩) (fun hb => ?_) (fun hb => ?_)
    · have hb := of_decide_eq_true hb
      have hc : c = .told x y := by
        rcases hxy with ⟨o, rfl⟩ | h
        · exact absurd (htg.symm.trans hb) (o_t o).2.2
        · exact h
      subst hc
      have hB : ∃ B, B = whR n pa pb y A := ⟨_, rfl⟩
      obtain ⟨B, hB⟩ := hB
      have hBl : B.length ≤ 4096 := by rw [hB]; exact Nat.le_trans (wh_le _ _) hlen1
      refine seq_cut (fun ρ S1 => ∃ af kva, S af = none ∧ SetR kva B ∧ ρ = [some (.ref a), some (.tup [.str tg, x.d, y.d]), some (.lst (rs.map runD)), some (.str tg), none, some (.lst (A.map runD)), some (.ref af), none, none] ∧ S1 = sup S af (.dn w af kva)) (fun Rest2 hR2 => ?_) ?_
      · cases hA2 : A with
        | nil =>
          have e : B = [] := by rw [hB, hA2]; exact wh_nil y
          rw [hA2] at hR2
          refine ⟨_, rfl, _, rfl, iteF fun af haf => hR2 _ _ ⟨af, [], haf, by rw [e]; exact SetR.nil, rfl, rfl⟩⟩
        | cons r0 l0 =>
          rw [hA2] at hR2 hB hsub1 hlen1
          refine ⟨_, rfl, _, rfl, iteT ?_⟩
          refine ⟨_, rfl, a, _, rfl, h1, hlk _ _, _, rfl, _, rfl, _, rfl, rfl, hG y (r0 :: l0) S _ hs hy hdy hdy2 hsub1 hlen1 ?_⟩
          rw [← hB]
          show dnR 4 _ _ _ _ (B.map runD) [] S _
          refine set_go ?_ hBl rfl rfl ?_
          · show 4 < 9; decide
          · exact fun kva hk af haf => hR2 _ _ ⟨af, kva, haf, hk, rfl, rfl⟩
      rintro ρ S1 ⟨af, kva, haf, hka, rfl, rfl⟩
      have hu1 : Sub S (sup S af (.dn w af kva)) := Sub.new haf
      have ha1 : sup S af (.dn w af kva) af = some (.dn w af kva) := sup_same
      generalize sup S af (.dn w af kva) = S1 at *
      refine seq_cut (fun ρ S2 => ∃ mp kvm, S1 mp = none ∧ SetR kvm A ∧ ρ = [some (.ref a), some (.tup [.str tg, x.d, y.d]), some (.lst (rs.map runD)), some (.str tg), none, some (.lst (A.map runD)), some (.ref af), some (.ref mp), none] ∧ S2 = sup S1 mp (.dn w mp kvm)) (fun Rest2 hR2 => ?_) ?_
      · refine ⟨_, rfl, ?_⟩
        show dnR 4 _ _ _ _ (A.map runD) [] S1 _
        refine set_go ?_ hlen1 rfl rfl ?_
        · show 4 < 9; decide
        · exact fun kvm hk mp hmp => hR2 _ _ ⟨mp, kvm, hmp, hk, rfl, rfl⟩
      rintro ρ S2 ⟨mp, kvm, hmp, hkm, rfl, rfl⟩
      have hu2 : Sub S1 (sup S1 mp (.dn w mp kvm)) := Sub.new hmp
      have hm2 : sup S1 mp (.dn w mp kvm) mp = some (.dn w mp kvm) := sup_same
      have ha2 := hu2 _ _ ha1
      generalize sup S1 mp (.dn w mp kvm) = S2 at *
      refine ⟨_, rfl, ?_⟩
      show lcR 4 _ _ _ (rs.map runD) [] S2 _
      refine lcR_fil runD runD (fun r => !decide (r ∈ A) || decide (r ∈ B)) rs [] S2 (fun r hr Q' q => ?_) (fun r _ Q' q => ⟨_, rfl, q⟩) (by show 0 + _ ≤ _; omega) ?_
      · refine or_go (b1 := !decide (r ∈ A)) (b2 := decide (r ∈ B)) (fun Q2 q2 => ?_) (fun Q2 q2 => ?_) q
        · exact in_go (r := r) (l := A) rfl rfl hm2 hkm q2
        · exact in_go (r := r) (l := B) rfl rfl ha2 hka q2
      · have e : whR n pa pb (.told x y) rs = rs.filter fun r => !decide (r ∈ A) || decide (r ∈ B) := by
          refine wh_told_eq fun r => ?_
          rw [Bool.or_eq_true, ndec_iff, decide_eq_true_eq, hB, hA]
        rw [List.nil_append, ← e]
        exact fini' (Sub.tr hu1 hu2) hq
    · have hb := of_decide_eq_false hb
      refine hR _ _ ⟨rfl, rfl, ?_⟩
      rcases hxy with h | h
      · exact h
      · subst h
        exact absurd htg hb
  rintro ρ S1 ⟨rfl, rfl, o, rfl⟩
  have hB : ∃ B, B = whR n pa pb y rs := ⟨_, rfl⟩
  obtain ⟨B, hB⟩ := hB
  have hBl : B.length ≤ 4096 := by rw [hB]; exact Nat.le_trans (wh_le _ _) hr
  refine seq_cut (fun ρ S1 => ∃ op kvo, S op = none ∧ SetR kvo B ∧ ρ = [some (.ref a), some (.tup [.str tg, x.d, y.d]), some (.lst (rs.map runD)), some (.str tg), none, some (.lst (A.map runD)), none, none, some (.ref op)] ∧ S1 = sup S op (.dn w op kvo)) (fun Rest2 hR2 => ?_) ?_
  · refine ⟨_, rfl, a, _, rfl, h1, hlk _ _, _, rfl, _, rfl, _, rfl, rfl, hG y rs S _ hs hy hdy hdy2 hrs hr ?_⟩
    rw [← hB]
    show dnR 4 _ _ _ _ (B.map runD) [] S _
    refine set_go ?_ hBl rfl rfl ?_
    · show 4 < 9; decide
    · exact fun kva hk af haf => hR2 _ _ ⟨af, kva, haf, hk, rfl, rfl⟩
  rintro ρ S1 ⟨op, kvo, hop, hko, rfl, rfl⟩
  have hu1 : Sub S (sup S op (.dn w op kvo)) := Sub.new hop
  have ho1 : sup S op (.dn w op kvo) op = some (.dn w op kvo) := sup_same
  generalize sup S op (.dn w op kvo) = S1 at *
  refine seq_cut (fun ρ S2 => ∃ mp kvm, S1 mp = none ∧ SetR kvm A ∧ ρ = [some (.ref a), some (.tup [.str tg, x.d, y.d]), some (.lst (rs.map runD)), some (.str tg), none, some (.lst (A.map runD)), none, some (.ref mp), some (.ref op)] ∧ S2 = sup S1 mp (.dn w mp kvm)) (fun Rest2 hR2 => ?_) ?_
  · refine ⟨_, rfl, ?_⟩
    show dnR 4 _ _ _ _ (A.map runD) [] S1 _
    refine set_go ?_ hlen1 rfl rfl ?_
    · show 4 < 9; decide
    · exact fun kvm hk mp hmp => hR2 _ _ ⟨mp, kvm, hmp, hk, rfl, rfl⟩
  rintro ρ S2 ⟨mp, kvm, hmp, hkm, rfl, rfl⟩
  have hu2 : Sub S1 (sup S1 mp (.dn w mp kvm)) := Sub.new hmp
  have hm2 : sup S1 mp (.dn w mp kvm) mp = some (.dn w mp kvm) := sup_same
  have ho2 := hu2 _ _ ho1
  generalize sup S1 mp (.dn w mp kvm) = S2 at *
  have htg : tg = o.t := htg
  subst htg
  -- and
  cases o with
  | and =>
    refine ⟨_, rfl, _, rfl, iteT ⟨_, rfl, ?_⟩⟩
    show lcR 4 _ _ _ (rs.map runD) [] S2 _
    refine lcR_fil runD runD (fun r => decide (r ∈ A) && decide (r ∈ B)) rs [] S2 (fun r hr Q' q => ?_) (fun r _ Q' q => ⟨_, rfl, q⟩) (by show 0 + _ ≤ _; omega) ?_
    · refine and_go (b1 := decide (r ∈ A)) (b2 := decide (r ∈ B)) (fun Q2 q2 => ?_) (fun Q2 q2 => ?_) q
      · exact in_go (f := id) (r := r) (l := A) rfl rfl hm2 hkm q2
      · exact in_go (f := id) (r := r) (l := B) rfl rfl ho2 hko q2
    · have e : whR n pa pb (.two .and x y) rs = rs.filter fun r => decide (r ∈ A) && decide (r ∈ B) := by
        refine wh_and_eq fun r => ?_
        rw [Bool.and_eq_true, decide_eq_true_eq, decide_eq_true_eq, hB, hA]
      rw [List.nil_append, ← e]
      exact fini' (Sub.tr hu1 hu2) hq
  | or =>
    refine ⟨_, rfl, _, rfl, iteF ?_⟩
    refine ⟨_, rfl, _, rfl, iteT ⟨_, rfl, ?_⟩⟩
    show lcR 4 _ _ _ (rs.map runD) [] S2 _
    refine lcR_fil runD runD (fun r => decide (r ∈ A) || decide (r ∈ B)) rs [] S2 (fun r hr Q' q => ?_) (fun r _ Q' q => ⟨_, rfl, q⟩) (by show 0 + _ ≤ _; omega) ?_
    · refine or_go (b1 := decide (r ∈ A)) (b2 := decide (r ∈ B)) (fun Q2 q2 => ?_) (fun Q2 q2 => ?_) q
      · exact in_go (f := id) (r := r) (l := A) rfl rfl hm2 hkm q2
      · exact in_go (f := id) (r := r) (l := B) rfl rfl ho2 hko q2
    · have e : whR n pa pb (.two .or x y) rs = rs.filter fun r => decide (r ∈ A) || decide (r ∈ B) := by
        refine wh_or_eq fun r => ?_
        rw [Bool.or_eq_true, decide_eq_true_eq, decide_eq_true_eq, hB, hA]
      rw [List.nil_append, ← e]
      exact fini' (Sub.tr hu1 hu2) hq
  | imp =>
    refine ⟨_, rfl, _, rfl, iteF ?_⟩
    refine ⟨_, rfl, _, rfl, iteF ?_⟩
    refine ⟨_, rfl, ?_⟩
    show lcR 4 _ _ _ (rs.map runD) [] S2 _
    refine lcR_fil runD runD (fun r => !decide (r ∈ A) || decide (r ∈ B)) rs [] S2 (fun r hr Q' q => ?_) (fun r _ Q' q => ⟨_, rfl, q⟩) (by show 0 + _ ≤ _; omega) ?_
    · refine or_go (b1 := !decide (r ∈ A)) (b2 := decide (r ∈ B)) (fun Q2 q2 => ?_) (fun Q2 q2 => ?_) q
      · exact in_go (f := not) (r := r) (l := A) rfl rfl hm2 hkm q2
      · exact in_go (f := id) (r := r) (l := B) rfl rfl ho2 hko q2
    · have e : whR n pa pb (.two .imp x y) rs = rs.filter fun r => !decide (r ∈ A) || decide (r ∈ B) := by
        refine wh_imp_eq fun r => ?_
        rw [Bool.or_eq_true, ndec_iff, decide_eq_true_eq, hB, hA]
      rw [List.nil_append, ← e]
      exact fini' (Sub.tr hu1 hu2) hq
theorem wheres (Z : Zf P w K mg base) : ∀ m : Nat, Me P w K mg base (1 + m) (SeC K) "where" ["self", "claim", "runs"] (m_where w K m)
  | 0 => vac_where Z _
  | m + 1 => d_where Z m (wheres Z m)
end K06
namespace K06
open PySem PySem.Spec L2 DL
local macro_rules | `(tactic| walk_at "nd") => `(tactic| simp only [icO, isN0, gCatB, gEq_bb, tdLcB, tdDNew, tdNNew, tdNGet, tdNPut, tdFGet, tdiF, tdDctF, tdDc, tdDcN, tdTru, tdDAugG, tdDictZ, tdCallV, tdLc2, ln_4, ln_5, ln_6, fmod_2, fdiv_2, gAddT, tdIdx, gdUnl, tdiD, gSortI, gMin2, gMax2, gTuple, gDictP, tdLcT, lcT, setD, unsetD, tdKGet, tdKGet2, tdGet2, tdPop, tdSeq, tdAsg, tdV, gdName, tdAnd, tdOr, tdNot, tdB, tdOp, tdCB, tdCons, tdNil, tdC, tdAug, tdSl, tdP, tdRet, tdTup, tdIf, tdIfS, gOrd, gI0, gI, gLen, gIx, gAdd, gInt, vw, ixP, gSl, tdDrop, tdRetN, tdNext, gIn_sc, gIn_ts, gIn_ls, gIn_t2, gIn_l2, gIn_l4, tdApp, sl_0, sl_1, sl_2, sl_3, sl_4, sl_5, ff, tt', true_and, id,
  eqS, tdFor, tdiT, tdiL, tdiR, tdXp, gList, gEq_ns, tdJoin, gJoin, vwS, gMul, gMod, gDiv, gPow, gI, tdAugS, gdSub, gSet, ixN_2, ixN_3, atI_3, atI_4, gEq_ss, gEq_ii, tdDict, tdPairs, tdNeg, Option.isNone_none, Option.isNone_some, gIsi, tdGet, tdDPut, tdDAug, tdIsN, tdNotN, DO.dic.injEq, Option.isNone_none, Option.isNone_some, gIn_l2, gIn_t2, Option.getD_some, tdLc, gMax, tdNoP, forR, tdRaise, tdCall, tdNotV, tdAndV, tdOrV, tdBox, tdZ, gdTup, gdCons, gdNil, tdBreak, tdCont, tdYes, icast, icast1, icast2, icast3, tdLst, gIn_l4, icastL, icastE, icastZ, ln_0, ln_1, ln_2, ln_3,
  List.getElem?_cons_zero, List.getElem?_cons_succ, List.set_cons_zero, List.set_cons_succ, Option.some.injEq, exists_eq_left', exists_eq_left, D.bl.injEq, decide_eq_true_eq,
  tdFldC, tdMeth, tdMake, tdPutF, tdAugF, D.ref.injEq, DO.ins.injEq, and_assoc, DL.gSub, D.int.injEq, D.str.injEq, sup_same, eq_self, not_true_eq_false, not_false_eq_true, Bool.false_eq_true, Bool.not_eq_true, decide_not, atIn, atI_0, atI_1, atI_2, List.getElem?_map, Option.map_some, Option.map_none, decide_true, decide_false, Bool.not_true, Bool.not_false, if_true, if_false, lm_0, lm_1, lm_2, List.length_map, exists_and_left, *])
variable {P : Program} {w : World} {K : PySem.W.Frag} {mg : Str → Option Value} {base : Heap}
theorem bs_pure : ∀ r : List Bool, D.pures (bD r) = true
  | [] => rfl
  | b :: r => by show (true && D.pures (bD r)) = true; rw [bs_pure r]; rfl
theorem rows_pure : ∀ r : Run, D.pures (r.map rowD) = true
  | [] => rfl
  | b :: r => by show (D.pures (bD b) && D.pures (r.map rowD)) = true; rw [bs_pure, rows_pure r]; rfl
theorem runs_pure : ∀ r : List Run, D.pures (r.map runD) = true
  | [] => rfl
  | b :: r => by show (D.pures (b.map rowD) && D.pures (r.map runD)) = true; rw [rows_pure, runs_pure r]; rfl
theorem bs_lay : ∀ r : List Bool, PyData.canLayAll0 (D.datas (bD r)) = true ∧ PyData.depthAll (D.datas (bD r)) = 0
  | [] => ⟨rfl, rfl⟩
  | b :: r => by
    obtain ⟨h1, h2⟩ := bs_lay r
    refine ⟨?_, ?_⟩
    · show (true && PyData.canLayAll0 (D.datas (bD r))) = true
      rw [h1]; rfl
    · show max 0 (PyData.depthAll (D.datas (bD r))) = 0
      rw [h2]; rfl
theorem rows_lay : ∀ r : Run, PyData.canLayAll0 (D.datas (r.map rowD)) = true ∧ PyData.depthAll (D.datas (r.map rowD)) ≤ 1
  | [] => ⟨rfl, Nat.zero_le _⟩
  | b :: r => by
    obtain ⟨h1, h2⟩ := rows_lay r
    obtain ⟨h3, h4⟩ := bs_lay b
    refine ⟨?_, ?_⟩
    · show (PyData.canLayAll0 (D.datas (bD b)) && PyData.canLayAll0 (D.datas (r.map rowD))) = true
      rw [h1, h3]; rfl
    · show max (PyData.depthAll (D.datas (bD b)) + 1) (PyData.depthAll (D.datas (r.map rowD))) ≤ 1
      omega
theorem runs_lay : ∀ r : List Run, PyData.canLayAll0 (D.datas (r.map runD)) = true ∧ PyData.depthAll (D.datas (r.map runD)) ≤ 2
  | [] => ⟨rfl, Nat.zero_le _⟩
  | b :: r => by
    obtain ⟨h1, h2⟩ := runs_lay r
    obtain ⟨h3, h4⟩ := rows_lay b
    refine ⟨?_, ?_⟩
    · show (PyData.canLayAll0 (D.datas (b.map rowD)) && PyData.canLayAll0 (D.datas (r.map runD))) = true
      rw [h1, h3]; rfl
    · show max (PyData.depthAll (D.datas (b.map rowD)) + 1) (PyData.depthAll (D.datas (r.map runD))) ≤ 2
      omega
theorem row_shaped (r : List Bool) : SeqAt.shaped (rowD r).data = true := by
  obtain ⟨h1, h2⟩ := bs_lay r
  show (PyData.canLayAll0 (D.datas (bD r)) && decide (PyData.depthAll (D.datas (bD r)) + 1 ≤ 64)) = true
  rw [h1, decide_eq_true (by omega)]; rfl
theorem run_shaped (r : Run) : SeqAt.shaped (runD r).data = true := by
  obtain ⟨h1, h2⟩ := rows_lay r
  show (PyData.canLayAll0 (D.datas (r.map rowD)) && decide (PyData.depthAll (D.datas (r.map rowD)) + 1 ≤ 64)) = true
  rw [h1, decide_eq_true (by omega)]; rfl
theorem rowl_shaped (r : Run) : SeqAt.shaped (D.lst (r.map rowD)).data = true := by
  obtain ⟨h1, h2⟩ := rows_lay r
  show (PyData.canLayAll0 (D.datas (r.map rowD)) && decide (PyData.depthAll (D.datas (r.map rowD)) + 1 ≤ 64)) = true
  rw [h1, decide_eq_true (by omega)]; rfl
theorem runl_shaped (r : List Run) : SeqAt.shaped (D.lst (r.map runD)).data = true := by
  obtain ⟨h1, h2⟩ := runs_lay r
  show (PyData.canLayAll0 (D.datas (r.map runD)) && decide (PyData.depthAll (D.datas (r.map runD)) + 1 ≤ 64)) = true
  rw [h1, decide_eq_true (by omega)]; rfl
theorem bs_eqv : ∀ a b : List Bool, PyData.eqvAll (D.datas (bD a)) (D.datas (bD b)) = decide (a = b)
  | [], [] => rfl
  | [], _ :: _ => rfl
  | _ :: _, [] => rfl
  | x :: a, y :: b => by
    show ((x == y) && PyData.eqvAll (D.datas (bD a)) (D.datas (bD b))) = _
    rw [bs_eqv a b]
    cases x <;> cases y <;> simp
theorem rows_eqv : ∀ a b : Run, PyData.eqvAll (D.datas (a.map rowD)) (D.datas (b.map rowD)) = decide (a = b)
  | [], [] => rfl
  | [], _ :: _ => rfl
  | _ :: _, [] => rfl
  | x :: a, y :: b => by
    show (PyData.eqvAll (D.datas (bD x)) (D.datas (bD y)) && PyData.eqvAll (D.datas (a.map rowD)) (D.datas (b.map rowD))) = _
    rw [rows_eqv a b, bs_eqv]
    by_cases h1 : x = y <;> by_cases h2 : a = b <;> simp [h1, h2]
theorem run_any (r : Run) : ∀ l : List Run, ((D.datas (l.map runD)).any fun z => PyData.eqv z (runD r).data) = decide (r ∈ l)
  | [] => rfl
  | q :: l => by
    show (PyData.eqvAll (D.datas (q.map rowD)) (D.datas (r.map rowD)) || (D.datas (l.map runD)).any fun z => PyData.eqv z (runD r).data) = _
    rw [run_any r l, rows_eqv]
    by_cases h : q = r
    · subst h; simp
    · have h' : ¬ r = q := fun z => h z.symm
      simp [h, h']
theorem row_any (r : List Bool) : ∀ l : Run, ((D.datas (l.map rowD)).any fun z => PyData.eqv z (rowD r).data) = decide (r ∈ l)
  | [] => rfl
  | q :: l => by
    show (PyData.eqvAll (D.datas (bD q)) (D.datas (bD r)) || (D.datas (l.map rowD)).any fun z => PyData.eqv z (rowD r).data) = _
    rw [row_any r l, bs_eqv]
    by_cases h : q = r
    · subst h; simp
    · have h' : ¬ r = q := fun z => h z.symm
      simp [h, h']
theorem inD_run {f : Bool → Bool} {S : Store} {r : Run} {l : List Run} {Q : D → Store → Prop} (q : Q (.bl (f (decide (r ∈ l)))) S) : gInD f S (runD r) (.lst (l.map runD)) Q := by
  show _ ∧ _ ∧ _ ∧ _ ∧ Q (.bl (f ((D.datas (l.map runD)).any fun z => PyData.eqv z (runD r).data))) S
  rw [run_any]
  exact ⟨rows_pure r, runs_pure l, run_shaped r, runl_shaped l, q⟩
theorem inD_row {f : Bool → Bool} {S : Store} {r : List Bool} {l : Run} {Q : D → Store → Prop} (q : Q (.bl (f (decide (r ∈ l)))) S) : gInD f S (rowD r) (.lst (l.map rowD)) Q := by
  show _ ∧ _ ∧ _ ∧ _ ∧ Q (.bl (f ((D.datas (l.map rowD)).any fun z => PyData.eqv z (rowD r).data))) S
  rw [row_any]
  exact ⟨bs_pure r, rows_pure l, row_shaped r, rowl_shaped l, q⟩
theorem eq_run {f : Bool → Bool} {S : Store} {a b : Run} {Q : D → Store → Prop} (q : Q (.bl (f (decide (a = b)))) S) : gEq f S (runD a) (runD b) Q := by
  unfold gEq
  rw [show eqS (runD a) (runD b) = none from rfl]
  show _ ∧ _ ∧ _ ∧ _ ∧ Q (.bl (f (PyData.eqvAll (D.datas (a.map rowD)) (D.datas (b.map rowD))))) S
  rw [rows_eqv]
  exact ⟨rows_pure a, rows_pure b, run_shaped a, run_shaped b, q⟩
theorem eq_row {f : Bool → Bool} {S : Store} {a b : List Bool} {Q : D → Store → Prop} (q : Q (.bl (f (decide (a = b)))) S) : gEq f S (rowD a) (rowD b) Q := by
  unfold gEq
  rw [show eqS (rowD a) (rowD b) = none from rfl]
  show _ ∧ _ ∧ _ ∧ _ ∧ Q (.bl (f (PyData.eqvAll (D.datas (bD a)) (D.datas (bD b))))) S
  rw [bs_eqv]
  exact ⟨bs_pure a, bs_pure b, row_shaped a, row_shaped b, q⟩
/-- the arguments of a question -/
structure Ask (n : Net) (pa pb : List Nat) (run : Run) (c : Cl) : Prop where
  no : n.ok
  oa : ∀ p ∈ pa, p < n.os.length
  ob : ∀ p ∈ pb, p < n.os.length
  la : pa.length ≤ 20
  lb : pb.length ≤ 20
  hr : run ∈ runsB n.ni run.length
  hk : n.ni * run.length ≤ 12
  hc : c.ok n.fs.length
  hd : c.dp < 6
def m_known : M := fun ds S Q E => ∃ (n : Net) (pa pb : List Nat) (run : Run) (c : Cl), ds = [n.d, obD pa pb, runD run, c.d] ∧ Ask n pa pb run c ∧ Q (.bl (decide (run ∈ whR n pa pb c (runsB n.ni run.length)))) S
theorem d_known_after (Z : Zf P w K mg base) : Ca P w K mg base 8 "known_after" ["net", "observers", "run", "claim"] m_known := by
  obtain ⟨fd, F, hb⟩ := Z.F_known_after
  refine ⟨_, fd, df_of (k := 7) F sc_known_after (fun cdv A outer s H E F0 E' B => (dss_cons (ds_set 4 nd_known_after (de_ma (d_Seeing___init__ Z) (B.mono (by omega)) rfl (da_cons (dv 0) (da_cons (dv 1) (da_cons (de_cB oc_len rfl Z.f_len bb_len (da_cons (dv 2) da_nil)) da_nil)))))
    (dss_cons (ds_expr (de_me (dv 4) (checks Z 6) (B.mono (by omega)) (da_cons (dv 3) da_nil)))
    (dss_one (ds_ret (de_cmp (od_inD (hu65 B.room)) (dv 2) (de_me (dv 4) (wheres Z 6) (B.mono (by omega)) (da_cons (dv 3) (da_cons (de_fldK K rfl (dv 4)) da_nil))) rfl)))))) ?_, Z.g_known_after, F.kp, hb⟩
  rintro ds S Q E hl ⟨n, pa, pb, run, c, rfl, h, hq⟩
  rw [show startD N_known_after [n.d, obD pa pb, runD run, c.d] = [some n.d, some (obD pa pb), some (runD run), some c.d, none] from rfl]
  clear hl
  have pr := of_eq_true (pl_runs Z)
  refine seq_cut (fun ρ S1 => ∃ a, ρ = [some n.d, some (obD pa pb), some (runD run), some c.d, some (.ref a)] ∧ Sub S S1 ∧ SeeOk w K n pa pb run.length a S1) (fun Rest hR => ?_) ?_
  · refine ⟨_, rfl, _, rfl, _, rfl, rfl, fun a ha => ?_⟩
    refine ⟨a, n, pa, pb, run.length, ?_, sup_same, h.no, h.oa, h.ob, h.la, h.lb, h.hk, fun S' hS' hs => ⟨rfl, ?_⟩⟩
    · rw [List.length_map]
    refine hR _ _ ⟨a, rfl, fun b u e => ?_, hs⟩
    have hne : b ≠ a := fun z => by rw [z, ha] at e; cases e
    exact hS' b u hne (by rw [sup_ne hne]; exact e)
  rintro ρ S1 ⟨a, rfl, hsub, hs⟩
  obtain ⟨kp, sp, kvk, kvs, h1, _⟩ := hs.ex
  have hlc : (fldD K n pa pb (runsB n.ni run.length) kp sp).lookup ("check" : Str) = none := rfl
  have hlw : (fldD K n pa pb (runsB n.ni run.length) kp sp).lookup ("where" : Str) = none := rfl
  refine seq_cut (fun ρ S2 => ρ = [some n.d, some (obD pa pb), some (runD run), some c.d, some (.ref a)] ∧ S1 = S2) (fun Rest hR => ?_) ?_
  · exact ⟨_, rfl, a, _, rfl, h1, hlc, _, rfl, rfl, a, n, pa, pb, run.length, c, rfl, hs, h.hc, h.hd, hR _ _ ⟨rfl, rfl⟩⟩
  rintro ρ S2 ⟨rfl, rfl⟩
  refine ⟨_, rfl, _, rfl, a, _, rfl, h1, hlw, _, rfl, _, rfl, a, _, _, _, rfl, h1, pr, rfl, rfl, ?_⟩
  refine ⟨a, n, pa, pb, run.length, c, runsB n.ni run.length, rfl, hs, h.no.f2, h.hc, h.hd, by (have := h.hd); omega, fun r hr => hr, runs_le (Nat.le_refl _) h.hk, ?_⟩
  refine inD_run ?_
  exact fini' hsub hq
end K06
namespace K06
open PySem PySem.Spec L2 DL
local macro_rules | `(tactic| walk_at "nd") => `(tactic| simp only [icO, isN0, gCatB, gEq_bb, tdLcB, tdDNew, tdNNew, tdNGet, tdNPut, tdFGet, tdiF, tdDctF, tdDc, tdDcN, tdTru, tdDAugG, tdDictZ, tdCallV, tdLc2, ln_4, ln_5, ln_6, fmod_2, fdiv_2, gAddT, tdIdx, gdUnl, tdiD, gSortI, gMin2, gMax2, gTuple, gDictP, tdLcT, lcT, setD, unsetD, tdKGet, tdKGet2, tdGet2, tdPop, tdSeq, tdAsg, tdV, gdName, tdAnd, tdOr, tdNot, tdB, tdOp, tdCB, tdCons, tdNil, tdC, tdAug, tdSl, tdP, tdRet, tdTup, tdIf, tdIfS, gOrd, gI0, gI, gLen, gIx, gAdd, gInt, vw, ixP, gSl, tdDrop, tdRetN, tdNext, gIn_sc, gIn_ts, gIn_ls, gIn_t2, gIn_l2, gIn_l4, tdApp, sl_0, sl_1, sl_2, sl_3, sl_4, sl_5, ff, tt', true_and, id,
  eqS, tdFor, tdiT, tdiL, tdiR, tdXp, gList, gEq_ns, tdJoin, gJoin, vwS, gMul, gMod, gDiv, gPow, gI, tdAugS, gdSub, gSet, ixN_2, ixN_3, atI_3, atI_4, gEq_ss, gEq_ii, tdDict, tdPairs, tdNeg, Option.isNone_none, Option.isNone_some, gIsi, tdGet, tdDPut, tdDAug, tdIsN, tdNotN, DO.dic.injEq, Option.isNone_none, Option.isNone_some, gIn_l2, gIn_t2, Option.getD_some, tdLc, gMax, tdNoP, forR, tdRaise, tdCall, tdNotV, tdAndV, tdOrV, tdBox, tdZ, gdTup, gdCons, gdNil, tdBreak, tdCont, tdYes, icast, icast1, icast2, icast3, tdLst, gIn_l4, icastL, icastE, icastZ, ln_0, ln_1, ln_2, ln_3,
  List.getElem?_cons_zero, List.getElem?_cons_succ, List.set_cons_zero, List.set_cons_succ, Option.some.injEq, exists_eq_left', exists_eq_left, D.bl.injEq, decide_eq_true_eq,
  tdFldC, tdMeth, tdMake, tdPutF, tdAugF, D.ref.injEq, DO.ins.injEq, and_assoc, DL.gSub, D.int.injEq, D.str.injEq, sup_same, eq_self, not_true_eq_false, not_false_eq_true, Bool.false_eq_true, Bool.not_eq_true, decide_not, atIn, atI_0, atI_1, atI_2, List.getElem?_map, Option.map_some, Option.map_none, decide_true, decide_false, Bool.not_true, Bool.not_false, if_true, if_false, lm_0, lm_1, lm_2, List.length_map, exists_and_left, *])
variable {P : Program} {w : World} {K : PySem.W.Frag} {mg : Str → Option Value} {base : Heap}
def optD : Option Run → D
  | some r => runD r
  | none => .non
def dbt (n : Net) (pa pb : List Nat) (run : Run) (who : Bool) (c : Cl) : Option Run := (runsB n.ni run.length).find? fun r => decide (sees n pa pb who r = sees n pa pb who run) && !decide (r ∈ whR n pa pb c (runsB n.ni run.length))
def m_doubt : M := fun ds S Q E => ∃ (n : Net) (pa pb : List Nat) (run : Run) (who : Bool) (c : Cl), ds = [n.d, obD pa pb, runD run, .str (whoT who), c.d] ∧ Ask n pa pb run c ∧ Q (optD (dbt n pa pb run who c)) S
theorem d_doubt (Z : Zf P w K mg base) : Ca P w K mg base 8 "doubt" ["net", "observers", "run", "who", "claim"] m_doubt := by
  obtain ⟨fd, F, hb⟩ := Z.F_doubt
  refine ⟨_, fd, df_of (k := 7) F sc_doubt (fun cdv A outer s H E F0 E' B => (dss_cons (ds_set 5 nd_doubt (de_ma (d_Seeing___init__ Z) (B.mono (by omega)) rfl (da_cons (dv 0) (da_cons (dv 1) (da_cons (de_cB oc_len rfl Z.f_len bb_len (da_cons (dv 2) da_nil)) da_nil)))))
    (dss_cons (ds_expr (de_me (dv 5) (d_Seeing_observer Z) (B.mono (by omega)) (da_cons (dv 3) da_nil)))
    (dss_cons (ds_expr (de_me (dv 5) (checks Z 6) (B.mono (by omega)) (da_cons (dv 4) da_nil)))
    (dss_cons (ds_setDcN 6 (w := w) rfl (hu65 B.room) rfl nd_doubt rfl rfl (sw_trueD rfl rfl rfl (by decide +kernel)) (di_lst (de_me (dv 5) (wheres Z 6) (B.mono (by omega)) (da_cons (dv 4) (da_cons (de_fldK K rfl (dv 5)) da_nil)))) (blkOk_by (own := [("each", 7)]) (N := N_doubt) (sc := defScope st_doubt) (by decide +kernel)) (fun _ _ _ _ _ => pg_name (i := 7) nd_doubt rfl (Or.inl rfl)) (fun _ _ _ _ _ => dts_nil) (fun _ _ _ _ _ => (dv 7)) (fun _ _ _ _ _ => de_bl))
    (dss_cons (ds_for (passes_of rfl) rfl (di_lst (de_fldK K rfl (dv 5))) (dg_name 8 nd_doubt) (dss_one (ds_if (PW.pt (dw_and (dt_cmp (od_eq B.units) (de_get B.units1 (de_nget (w := w) rfl (hu65 B.room) (de_fldK K rfl (dv 5)) (dv 8)) (dv 3)) (de_get B.units1 (de_nget (w := w) rfl (hu65 B.room) (de_fldK K rfl (dv 5)) (dv 2)) (dv 3)) rfl) (dw_and1 (dt_cmp (od_ninN (w := w) rfl (hu65 B.room)) (dv 8) (dv 6) rfl)))) (dss_one (ds_ret (dv 8))) dss_nil)))
    (dss_one (ds_ret de_non)))))))) ?_, Z.g_doubt, F.kp, hb⟩
  rintro ds S Q E hl ⟨n, pa, pb, run, who, c, rfl, h, hq⟩
  rw [show startD N_doubt [n.d, obD pa pb, runD run, .str (whoT who), c.d] = [some n.d, some (obD pa pb), some (runD run), some (.str (whoT who)), some c.d, none, none, none, none] from rfl]
  clear hl
  have pr := of_eq_true (pl_runs Z)
  have ps := of_eq_true (pl_seen Z)
  refine seq_cut (fun ρ S1 => ∃ a, ρ = [some n.d, some (obD pa pb), some (runD run), some (.str (whoT who)), some c.d, some (.ref a), none, none, none] ∧ Sub S S1 ∧ SeeOk w K n pa pb run.length a S1) (fun Rest hR => ?_) ?_
  · refine ⟨_, rfl, _, rfl, _, rfl, rfl, fun a ha => ?_⟩
    refine ⟨a, n, pa, pb, run.length, ?_, sup_same, h.no, h.oa, h.ob, h.la, h.lb, h.hk, fun S' hS' hs => ⟨rfl, ?_⟩⟩
    · rw [List.length_map]
    refine hR _ _ ⟨a, rfl, fun b u e => ?_, hs⟩
    have hne : b ≠ a := fun z => by rw [z, ha] at e; cases e
    exact hS' b u hne (by rw [sup_ne hne]; exact e)
  rintro ρ S1 ⟨a, rfl, hsub, hs⟩
  obtain ⟨kp, sp, kvk, kvs, h1, h2, h3, h4, h5⟩ := hs.ex
  have hlc : (fldD K n pa pb (runsB n.ni run.length) kp sp).lookup ("check" : Str) = none := rfl
  have hlw : (fldD K n pa pb (runsB n.ni run.length) kp sp).lookup ("where" : Str) = none := rfl
  have hlo : (fldD K n pa pb (runsB n.ni run.length) kp sp).lookup ("observer" : Str) = none := rfl
  refine seq_cut (fun ρ S2 => ρ = [some n.d, some (obD pa pb), some (runD run), some (.str (whoT who)), some c.d, some (.ref a), none, none, none] ∧ S1 = S2) (fun Rest hR => ?_) ?_
  · exact ⟨_, rfl, a, _, rfl, h1, hlo, _, rfl, rfl, a, n, pa, pb, run.length, who, rfl, hs, hR _ _ ⟨rfl, rfl⟩⟩
  rintro ρ S2 ⟨rfl, rfl⟩
  refine seq_cut (fun ρ S2 => ρ = [some n.d, some (obD pa pb), some (runD run), some (.str (whoT who)), some c.d, some (.ref a), none, none, none] ∧ S1 = S2) (fun Rest hR => ?_) ?_
  · exact ⟨_, rfl, a, _, rfl, h1, hlc, _, rfl, rfl, a, n, pa, pb, run.length, c, rfl, hs, h.hc, h.hd, hR _ _ ⟨rfl, rfl⟩⟩
  rintro ρ S2 ⟨rfl, rfl⟩
  obtain ⟨A, hA⟩ : ∃ A, A = whR n pa pb c (runsB n.ni run.length) := ⟨_, rfl⟩
  have hAl : A.length ≤ 4096 := by rw [hA]; exact Nat.le_trans (wh_le _ _) (runs_le (Nat.le_refl _) h.hk)
  have hq : Q (optD ((runsB n.ni run.length).find? fun r => decide (sees n pa pb who r = sees n pa pb who run) && !decide (r ∈ A))) S := by rw [hA]; exact hq
  refine seq_cut (fun ρ S2 => ∃ gp kvg, S1 gp = none ∧ SetR kvg A ∧ ρ = [some n.d, some (obD pa pb), some (runD run), some (.str (whoT who)), some c.d, some (.ref a), some (.ref gp), none, none] ∧ S2 = sup S1 gp (.dn w gp kvg)) (fun Rest hR => ?_) ?_
  · refine ⟨_, rfl, a, _, rfl, h1, hlw, _, rfl, _, rfl, a, _, _, _, rfl, h1, pr, rfl, rfl, ?_⟩
    refine ⟨a, n, pa, pb, run.length, c, runsB n.ni run.length, rfl, hs, h.no.f2, h.hc, h.hd, by (have := h.hd); omega, fun r hr => hr, runs_le (Nat.le_refl _) h.hk, ?_⟩
    show dnR 7 tdYes _ _ _ ((whR n pa pb c (runsB n.ni run.length)).map runD) [] S1 _
    rw [← hA]
    refine dnR_set runD (fun r => r) (fun _ => true) A [] [] (fun x _ Q' q => q) (fun x _ Q' q => ⟨_, rfl, q⟩) (fun x _ Q' q => q) (by show 0 + _ ≤ _; omega) SetR.nil fun kvs hk gp hgp => ?_
    refine hR _ _ ⟨gp, kvs, hgp, ?_, rfl, rfl⟩
    rw [List.nil_append, List.map_id', List.filter_eq_self.mpr (fun _ _ => rfl)] at hk
    exact hk
  rintro ρ S2 ⟨gp, kvg, hgp, hset, rfl, rfl⟩
  have hu : Sub S1 (sup S1 gp (.dn w gp kvg)) := Sub.new hgp
  have hg1 : sup S1 gp (.dn w gp kvg) gp = some (.dn w gp kvg) := sup_same
  have hs2 := hs.sub hu
  have hsub2 := Sub.tr hsub hu
  clear hu hgp hs h1 h2 h3 h4 h5 hsub hlc hlw hlo
  generalize sup S1 gp (.dn w gp kvg) = S2 at *
  obtain ⟨kp, sp, kvk, kvs, h1, h2, h3, h4, h5⟩ := hs2.ex
  have hq : Fini Q (optD ((runsB n.ni run.length).find? fun r => decide (sees n pa pb who r = sees n pa pb who run) && !decide (r ∈ A))) S2 := fini' hsub2 hq
  refine seq_cut (fun ρ S3 => Fini Q .non S3) (fun Rest hR => ?_) (fun ρ S3 q => q)
  refine ⟨_, rfl, a, _, _, _, rfl, h1, pr, rfl, ?_⟩
  show forR _ _ _ ((runsB n.ni run.length).map runD) _ S2
  refine for_ind (fun ds ρ S' => ∃ (l : List Run) (x8 : Option D), ds = l.map runD ∧ (∀ r ∈ l, r ∈ runsB n.ni run.length) ∧ (l.find? fun r => decide (sees n pa pb who r = sees n pa pb who run) && !decide (r ∈ A)) = ((runsB n.ni run.length).find? fun r => decide (sees n pa pb who r = sees n pa pb who run) && !decide (r ∈ A)) ∧
    ρ = [some n.d, some (obD pa pb), some (runD run), some (.str (whoT who)), some c.d, some (.ref a), some (.ref gp), none, x8] ∧ S2 = S') ?_ ?_ _ _ _ ⟨runsB n.ni run.length, none, rfl, fun r h => h, rfl, rfl, rfl⟩
  · rintro ρ S' ⟨l, x8, e1, _, e2, rfl, rfl⟩
    have : l = [] := by
      cases l with
      | nil => rfl
      | cons _ _ => cases e1
    subst this
    rw [← e2] at hq
    exact hR _ _ hq
  · rintro d ds ρ S' W hW ⟨l, x8, e1, em, e2, rfl, rfl⟩
    cases l with
    | nil => cases e1
    | cons r l =>
    injection e1 with e1 e5
    subst e1 e5
    have hrr := em r List.mem_cons_self
    have key : ∀ (i : Nat) (r : Run) (ρ : Rho) (Q' : D → Store → Prop), ρ[5]? = some (some (.ref a)) → ρ[3]? = some (some (.str (whoT who))) → ρ[i]? = some (some (runD r)) → r ∈ runsB n.ni run.length → Q' (runD (sees n pa pb who r)) S2 →
        tdGet (tdNGet w (tdFldC K (tdV 5) "seen") (tdV i)) (tdV 3) ρ S2 Q' := by
      intro i r ρ Q' e5 e3 ei hr q
      obtain ⟨y, p, kv, k1, k2, k3⟩ := h5 r hr
      exact ⟨_, e5, a, _, _, _, rfl, h1, ps, rfl, _, ei, sp, kvs, runK r, y, _, rfl, h3, run_key r, k1, _, e3, p, kv, .inr (whoT who), _, rfl, k2, rfl, k3 who, q⟩
    refine ifS_cut (decide (sees n pa pb who r = sees n pa pb who run) && !decide (r ∈ A)) (fun Q' q => ?_) (fun hb => ?_) (fun hb => ?_)
    · refine and_go (b1 := decide (sees n pa pb who r = sees n pa pb who run)) (b2 := !decide (r ∈ A)) (fun Q2 q2 => ?_) (fun Q2 q2 => ?_) q
      · refine key 8 r _ _ rfl rfl rfl hrr ?_
        refine key 2 run _ _ rfl rfl rfl h.hr ?_
        exact eq_run ⟨_, rfl, q2⟩
      · exact in_go (f := not) (r := r) (l := A) rfl rfl hg1 hset q2
    · have hp : ∀ p : Run → Bool, p r = true → (r :: l).find? p = some r := fun p h => List.find?_cons_of_pos h
      rw [← e2, hp (fun r => decide (sees n pa pb who r = sees n pa pb who run) && !decide (r ∈ A)) hb] at hq
      exact ⟨_, rfl, hq⟩
    · have hp : ∀ p : Run → Bool, p r = false → (r :: l).find? p = l.find? p := fun p h => List.find?_cons_of_neg (by rw [h]; simp)
      rw [hp (fun r => decide (sees n pa pb who r = sees n pa pb who run) && !decide (r ∈ A)) hb] at e2
      exact hW _ _ ⟨l, _, rfl, fun u hu => em u (List.mem_cons_of_mem _ hu), e2, rfl, rfl⟩
end K06
namespace K06
open PySem PySem.Spec L2 DL
local macro_rules | `(tactic| walk_at "nd") => `(tactic| simp only [icO, isN0, gCatB, gEq_bb, tdLcB, tdDNew, tdNNew, tdNGet, tdNPut, tdFGet, tdiF, tdDctF, tdDc, tdDcN, tdTru, tdDAugG, tdDictZ, tdCallV, tdLc2, ln_4, ln_5, ln_6, fmod_2, fdiv_2, gAddT, tdIdx, gdUnl, tdiD, gSortI, gMin2, gMax2, gTuple, gDictP, tdLcT, lcT, setD, unsetD, tdKGet, tdKGet2, tdGet2, tdPop, tdSeq, tdAsg, tdV, gdName, tdAnd, tdOr, tdNot, tdB, tdOp, tdCB, tdCons, tdNil, tdC, tdAug, tdSl, tdP, tdRet, tdTup, tdIf, tdIfS, gOrd, gI0, gI, gLen, gIx, gAdd, gInt, vw, ixP, gSl, tdDrop, tdRetN, tdNext, gIn_sc, gIn_ts, gIn_ls, gIn_t2, gIn_l2, gIn_l4, tdApp, sl_0, sl_1, sl_2, sl_3, sl_4, sl_5, ff, tt', true_and, id,
  eqS, tdFor, tdiT, tdiL, tdiR, tdXp, gList, gEq_ns, tdJoin, gJoin, vwS, gMul, gMod, gDiv, gPow, gI, tdAugS, gdSub, gSet, ixN_2, ixN_3, atI_3, atI_4, gEq_ss, gEq_ii, tdDict, tdPairs, tdNeg, Option.isNone_none, Option.isNone_some, gIsi, tdGet, tdDPut, tdDAug, tdIsN, tdNotN, DO.dic.injEq, Option.isNone_none, Option.isNone_some, gIn_l2, gIn_t2, Option.getD_some, tdLc, gMax, tdNoP, forR, tdRaise, tdCall, tdNotV, tdAndV, tdOrV, tdBox, tdZ, gdTup, gdCons, gdNil, tdBreak, tdCont, tdYes, icast, icast1, icast2, icast3, tdLst, gIn_l4, icastL, icastE, icastZ, ln_0, ln_1, ln_2, ln_3,
  List.getElem?_cons_zero, List.getElem?_cons_succ, List.set_cons_zero, List.set_cons_succ, Option.some.injEq, exists_eq_left', exists_eq_left, D.bl.injEq, decide_eq_true_eq,
  tdFldC, tdMeth, tdMake, tdPutF, tdAugF, D.ref.injEq, DO.ins.injEq, and_assoc, DL.gSub, D.int.injEq, D.str.injEq, sup_same, eq_self, not_true_eq_false, not_false_eq_true, Bool.false_eq_true, Bool.not_eq_true, decide_not, atIn, atI_0, atI_1, atI_2, List.getElem?_map, Option.map_some, Option.map_none, decide_true, decide_false, Bool.not_true, Bool.not_false, if_true, if_false, lm_0, lm_1, lm_2, List.length_map, exists_and_left, *])
variable {P : Program} {w : World} {K : PySem.W.Frag} {mg : Str → Option Value} {base : Heap}
theorem vN_mem {k : NestedKey} : ∀ kvs : List (NestedKey × D × D), (vN kvs k).isSome = true ↔ k ∈ kvs.map (·.1)
  | [] => by constructor <;> (intro h; cases h)
  | (k', x) :: r => by
    show (if k' = k then some x else vN r k).isSome = true ↔ k ∈ k' :: r.map (·.1)
    by_cases h : k' = k
    · rw [if_pos h]; exact ⟨fun _ => by rw [h]; exact List.mem_cons_self, fun _ => rfl⟩
    · rw [if_neg h, vN_mem r]
      exact ⟨fun q => List.mem_cons_of_mem _ q, fun q => (List.mem_cons.mp q).resolve_left fun z => h z.symm⟩
abbrev Pr := List Bool × List Bool
/-- the states that are met -/
structure Tbl (n : Net) (ps : List Nat) (row : List Bool) (kvs : List (NestedKey × D × D)) (pr : List Pr) : Prop where
  ex : ∃ rs : Run, kvs.map (·.2.1) = rs.map rowD ∧ kvs.map (·.1) = rs.map rowK ∧ rs.length ≤ pr.length ∧ ∀ x, x ∈ rs ↔ ∃ p ∈ pr, n.lo ps p.1 p.2 = row ∧ n.nxt p.1 p.2 = x
theorem Tbl.nil (n : Net) (ps : List Nat) (row : List Bool) : Tbl n ps row [] [] := ⟨[], rfl, rfl, Nat.le_refl _, fun x => ⟨fun h => (nomatch h), fun ⟨_, h, _⟩ => (nomatch h)⟩⟩
theorem Tbl.skip {n : Net} {ps : List Nat} {row : List Bool} {kvs : List (NestedKey × D × D)} {pr : List Pr} (h : Tbl n ps row kvs pr) {p : Pr} (hn : n.lo ps p.1 p.2 ≠ row) : Tbl n ps row kvs (pr ++ [p]) := by
  obtain ⟨rs, h1, h2, h3, h4⟩ := h.ex
  refine ⟨rs, h1, h2, by rw [List.length_append]; omega, fun x => ?_⟩
  rw [h4]
  constructor
  · rintro ⟨q, q1, q2⟩
    exact ⟨q, List.mem_append_left _ q1, q2⟩
  · rintro ⟨q, q1, q2, q3⟩
    rcases List.mem_append.mp q1 with z | z
    · exact ⟨q, z, q2, q3⟩
    · rw [List.mem_singleton.mp z] at q2
      exact absurd q2 hn
theorem Tbl.put {n : Net} {ps : List Nat} {row : List Bool} {kvs : List (NestedKey × D × D)} {pr : List Pr} (h : Tbl n ps row kvs pr) {p : Pr} (hn : n.lo ps p.1 p.2 = row) (v : D) :
    Tbl n ps row (setN kvs (rowK (n.nxt p.1 p.2)) (rowD (n.nxt p.1 p.2)) v) (pr ++ [p]) := by
  obtain ⟨rs, h1, h2, h3, h4⟩ := h.ex
  have hm := vN_mem (k := rowK (n.nxt p.1 p.2)) kvs
  rw [h2] at hm
  have hm2 : rowK (n.nxt p.1 p.2) ∈ rs.map rowK ↔ n.nxt p.1 p.2 ∈ rs := by
    rw [List.mem_map]
    exact ⟨fun ⟨x, a, b⟩ => by rw [← rowK_inj b]; exact a, fun a => ⟨_, a, rfl⟩⟩
  rw [hm2] at hm
  unfold setN pN
  by_cases hs : (vN kvs (rowK (n.nxt p.1 p.2))).isSome = true
  · rw [if_pos hs]
    have hin := hm.mp hs
    refine ⟨rs, ?_, ?_, by rw [List.length_append]; omega, fun x => ?_⟩
    · rw [List.map_map, ← h1]
      refine List.map_congr_left fun q _ => ?_
      show (if q.1 = rowK (n.nxt p.1 p.2) then (q.1, (q.2.1, v)) else q).2.1 = q.2.1
      split <;> rfl
    · rw [List.map_map, ← h2]
      refine List.map_congr_left fun q _ => ?_
      show (if q.1 = rowK (n.nxt p.1 p.2) then (q.1, (q.2.1, v)) else q).1 = q.1
      split <;> rfl
    · rw [h4]
      constructor
      · rintro ⟨q, q1, q2⟩
        exact ⟨q, List.mem_append_left _ q1, q2⟩
      · rintro ⟨q, q1, q2, q3⟩
        rcases List.mem_append.mp q1 with z | z
        · exact ⟨q, z, q2, q3⟩
        · rw [List.mem_singleton.mp z] at q3
          rw [← q3]
          exact (h4 _).mp hin
  · rw [if_neg hs]
    refine ⟨rs ++ [n.nxt p.1 p.2], by rw [List.map_append, List.map_append, h1]; rfl, by rw [List.map_append, List.map_append, h2]; rfl, by rw [List.length_append, List.length_append]; show rs.length + 1 ≤ pr.length + 1; omega, fun x => ?_⟩
    rw [List.mem_append, List.mem_singleton, h4]
    constructor
    · rintro (⟨q, q1, q2⟩ | rfl)
      · exact ⟨q, List.mem_append_left _ q1, q2⟩
      · exact ⟨p, List.mem_append_right _ List.mem_cons_self, hn, rfl⟩
    · rintro ⟨q, q1, q2, q3⟩
      rcases List.mem_append.mp q1 with z | z
      · exact .inl ⟨q, z, q2, q3⟩
      · rw [List.mem_singleton.mp z] at q3
        exact .inr q3.symm
theorem Tbl.len {n : Net} {ps : List Nat} {row : List Bool} {kvs : List (NestedKey × D × D)} {pr : List Pr} (h : Tbl n ps row kvs pr) : kvs.length ≤ pr.length := by
  obtain ⟨rs, h1, h2, h3, h4⟩ := h.ex
  have := congrArg List.length h1
  rw [List.length_map, List.length_map] at this
  omega
theorem see_gen {i v : Nat} {ρ : Rho} {out : List Bool} {ps : List Nat} {S : Store} {Q : List D → Store → Prop} (hiv : i ≠ v) (h12 : ρ[i]? = some (some (rowD out))) (hl : v < ρ.length) (hp : ∀ p ∈ ps, p < out.length) (h20 : ps.length ≤ 20)
    (q : Q (bD (ps.map fun p => out.getD p false)) S) : lcR v tdYes (tdOp gIx (tdV i) (tdV v)) ρ (ps.map nat) [] S Q := by
  refine lcR_map nat (fun p => .bl (out.getD p false)) ps [] S (fun p hpm Q' q' => ?_) (by show 0 + _ ≤ _; omega) ?_
  · refine ⟨rowD out, by rw [List.getElem?_set_ne hiv.symm]; exact h12, nat p, by rw [List.getElem?_set_self hl], .bl (out.getD p false), ?_, q'⟩
    show atI (bD out) ((p : Nat) : Int) = _
    rw [atIn]
    unfold bD
    rw [List.getElem?_map, List.getD_eq_getElem?_getD, List.getElem?_eq_getElem (hp p hpm)]
    rfl
  · rw [List.nil_append]
    have e : ps.map (fun p => D.bl (out.getD p false)) = bD (ps.map fun p => out.getD p false) := by unfold bD; rw [List.map_map]; rfl
    rw [e]
    exact q
def prs (m : Nat) (l : Run) : List Pr := l.flatMap fun s => (rowsB m).map fun i => (s, i)
theorem prs_len (m : Nat) : ∀ l : Run, (prs m l).length = l.length * 2 ^ m
  | [] => by rw [List.length_nil, Nat.zero_mul]; rfl
  | a :: l => by
    have ih := prs_len m l
    unfold prs at ih ⊢
    rw [List.flatMap_cons, List.length_append, ih, List.length_map, rowsB_len, List.length_cons, Nat.succ_mul]
    omega
theorem prs_snoc (m : Nat) (l : Run) (s : List Bool) : prs m (l ++ [s]) = prs m l ++ (rowsB m).map fun i => (s, i) := by
  unfold prs
  rw [List.flatMap_append]
  show _ ++ ((rowsB m).map (fun i => (s, i)) ++ []) = _
  rw [List.append_nil]
theorem pow_le {m j k : Nat} (h : j ≤ k) (hk : m * k ≤ 12) : (2 ^ m) ^ j ≤ 4096 := by
  have := runs_le h hk
  rw [runsB_len] at this
  exact this
def m_beliefs : M := fun ds S Q E => ∃ (n : Net) (ps : List Nat) (told : Run), ds = [n.d, nmD ps, .lst (told.map rowD)] ∧ n.ok ∧ (∀ p ∈ ps, p < n.os.length) ∧ ps.length ≤ 20 ∧ n.ni * told.length ≤ 12 ∧
  ∀ ss : Run, Bel n ps told ss → ss.length ≤ 4096 → (∀ s ∈ ss, s.length = n.fs.length) → Q (.lst (ss.map rowD)) S
theorem d_beliefs (Z : Zf P w K mg base) : Ca P w K mg base 4 "beliefs" ["net", "seen", "told"] m_beliefs := by
  obtain ⟨fd, F, hb⟩ := Z.F_beliefs
  refine ⟨_, fd, df_of (k := 3) F sc_beliefs (fun cdv A outer s H E F0 E' B => (dss_cons (ds_setLc 3 rfl nd_beliefs rfl rfl (sw_true rfl rfl rfl (by decide +kernel)) (di_lst (dv 1)) (blkOk_by (own := [("name", 4)]) (N := N_beliefs) (sc := defScope st_beliefs) (by decide +kernel)) (fun _ _ _ _ _ => pg_name (i := 4) nd_beliefs rfl (Or.inl rfl)) (fun _ _ _ _ _ => dts_nil) (fun _ _ _ _ _ => (de_ca (d_place_of Z) (B.blk.mono (by omega)) rfl (da_cons (dv 0) (da_cons (dv 4) da_nil)))))
    (dss_cons (ds_set 5 nd_beliefs (de_lst (da_cons (de_ca (d_first_state Z) (B.mono (by omega)) rfl (da_cons (dv 0) da_nil)) da_nil)))
    (dss_cons (ds_for (passes_of rfl) rfl (di_lst (dv 2)) (dg_name 6 nd_beliefs) (dss_cons (ds_set 7 nd_beliefs (de_nnew (w := w) rfl))
    (dss_cons (ds_for (passes_of rfl) rfl (di_lst (dv 5)) (dg_name 8 nd_beliefs) (dss_one (ds_for (passes_of rfl) rfl (di_lst (de_ca (d_value_rows Z) (B.mono (by omega)) rfl (da_cons (de_cB oc_len rfl Z.f_len bb_len (da_cons (de_ix (dv 0) de_int) da_nil)) da_nil))) (dg_name 9 nd_beliefs) (dss_cons (ds_asg (de_ca (d_clock Z) (B.mono (by omega)) rfl (da_cons (dv 0) (da_cons (dv 8) (da_cons (dv 9) da_nil)))) (dg_tup (n := 2) rfl (dgs_cons (dg_name 10 nd_beliefs) (dgs_cons (dg_name 11 nd_beliefs) dgs_nil))))
    (dss_one (ds_if (dt_cmp (od_eq B.units) (de_cT oc_tuple rfl Z.f_tuple bb_tuple (da_cons (de_lc rfl nd_beliefs (di_lst (dv 3)) (blkOk_by (own := [("place", 12)]) (N := N_beliefs) (sc := defScope st_beliefs) (by decide +kernel)) (fun _ _ _ _ _ => pg_name (i := 12) nd_beliefs rfl (Or.inl rfl)) (fun _ _ _ _ _ => dts_nil) (fun _ _ _ _ _ => (de_ix (dv 10) (dv 12)))) da_nil)) (dv 6) rfl) (dss_one (ds_nput (w := w) rfl (hu65 B.room) (dv 7) (dv 11) de_bl)) dss_nil))))))
    (dss_one (ds_set 5 nd_beliefs (de_cB (oc_sortN (w := w) rfl (hu65 B.room) rfl) rfl Z.f_sorted bb_sorted (da_cons (dv 7) da_nil)))))))
    (dss_one (ds_ret (dv 5))))))) ?_, Z.g_beliefs, F.kp, hb⟩
  rintro ds S Q E hl ⟨n, ps, told, rfl, hn, hp, hp2, hk, hq⟩
  rw [show startD N_beliefs [n.d, nmD ps, .lst (told.map rowD)] = [some n.d, some (nmD ps), some (.lst (told.map rowD)), none, none, none, none, none, none, none, none, none, none] from rfl]
  clear hl
  refine seq_cut (fun ρ S1 => ρ = [some n.d, some (nmD ps), some (.lst (told.map rowD)), some (.lst (ps.map nat)), none, none, none, none, none, none, none, none, none] ∧ S = S1) (fun Rest hR => ?_) ?_
  · refine ⟨_, rfl, ?_⟩
    show lcR 4 _ _ _ (ps.map fun p => .str (ouT p)) [] S _
    exact lcR_map (fun p => .str (ouT p)) nat ps [] S (fun p hpm Q2 q2 => ⟨_, rfl, _, rfl, rfl, n, p, rfl, hn, hp p hpm, q2⟩) (by show 0 + _ ≤ _; omega) (hR _ _ ⟨rfl, rfl⟩)
  rintro ρ S1 ⟨rfl, rfl⟩
  refine seq_cut (fun ρ S1 => ρ = [some n.d, some (nmD ps), some (.lst (told.map rowD)), some (.lst (ps.map nat)), none, some (.lst ([n.fs].map rowD)), none, none, none, none, none, none, none] ∧ S = S1) (fun Rest hR => ?_) ?_
  · exact ⟨_, rfl, rfl, n, rfl, hn, sz5 (show 1 ≤ 1000000 by decide), hR _ _ ⟨rfl, rfl⟩⟩
  rintro ρ S1 ⟨rfl, rfl⟩
  refine seq_cut (fun ρ S1 => ∃ (ss : Run) (x6 x7 x8 x9 x10 x11 : Option D), ρ = [some n.d, some (nmD ps), some (.lst (told.map rowD)), some (.lst (ps.map nat)), none, some (.lst (ss.map rowD)), x6, x7, x8, x9, x10, x11, none] ∧ Sub S S1 ∧ Bel n ps told ss ∧ ss.length ≤ 4096 ∧ ∀ s ∈ ss, s.length = n.fs.length) (fun Rest hR => ?_) ?_
  · clear hq
    refine ⟨_, rfl, ?_⟩
    show forR _ _ _ (told.map rowD) _ S
    refine for_ind (fun ds ρ S' => ∃ (l done ss : Run) (x6 x7 x8 x9 x10 x11 : Option D), ds = l.map rowD ∧ done ++ l = told ∧ ρ = [some n.d, some (nmD ps), some (.lst (told.map rowD)), some (.lst (ps.map nat)), none, some (.lst (ss.map rowD)), x6, x7, x8, x9, x10, x11, none] ∧
      Sub S S' ∧ Bel n ps done ss ∧ ss.length ≤ (2 ^ n.ni) ^ done.length ∧ ∀ s ∈ ss, s.length = n.fs.length) ?_ ?_ _ _ _ ⟨told, [], [n.fs], none, none, none, none, none, none, rfl, rfl, rfl, Sub.refl _, Bel.init n ps, Nat.le_refl 1, fun s hs => by rw [List.mem_singleton.mp hs]⟩
    · rintro ρ S' ⟨l, done, ss, x6, x7, x8, x9, x10, x11, e1, e2, rfl, h1, h2, h3, h4⟩
      have : l = [] := by
        cases l with
        | nil => rfl
        | cons _ _ => cases e1
      subst this
      rw [List.append_nil] at e2
      subst e2
      exact hR _ _ ⟨ss, _, _, _, _, _, _, rfl, h1, h2, Nat.le_trans h3 (pow_le (Nat.le_refl _) hk), h4⟩
    rintro d ds ρ S' W hW ⟨l, done, ss, x6, x7, x8, x9, x10, x11, e1, e2, rfl, h1, h2, h3, h4⟩
    cases l with
    | nil => cases e1
    | cons row l =>
    injection e1 with e1 e5
    subst e1 e5
    clear hR
    have hdl : done.length + 1 ≤ told.length := by
      have := congrArg List.length e2
      rw [List.length_append, List.length_cons] at this
      omega
    have hss := Nat.le_trans h3 (pow_le (j := done.length) (by omega) hk)
    show tdSeq _ _ _ [some n.d, some (nmD ps), some (.lst (told.map rowD)), some (.lst (ps.map nat)), none, some (.lst (ss.map rowD)), some (rowD row), x7, x8, x9, x10, x11, none] S'
    refine seq_cut (fun ρ S2 => ∃ fp, S' fp = none ∧ ρ = [some n.d, some (nmD ps), some (.lst (told.map rowD)), some (.lst (ps.map nat)), none, some (.lst (ss.map rowD)), some (rowD row), some (.ref fp), x8, x9, x10, x11, none] ∧ S2 = sup S' fp (.dn w fp [])) (fun Rest hR => ?_) ?_
    · exact fun fp hfp => hR _ _ ⟨fp, hfp, rfl, rfl⟩
    rintro ρ S2 ⟨fp, hfp, rfl, rfl⟩
    refine seq_cut (fun ρ S3 => ∃ kvs x8 x9 x10 x11, Tbl n ps row kvs (prs n.ni ss) ∧ ρ = [some n.d, some (nmD ps), some (.lst (told.map rowD)), some (.lst (ps.map nat)), none, some (.lst (ss.map rowD)), some (rowD row), some (.ref fp), x8, x9, x10, x11, none] ∧ S3 = sup S' fp (.dn w fp kvs)) (fun Rest hR => ?_) ?_
    · clear hW
      refine ⟨_, rfl, ?_⟩
      show forR _ _ _ (ss.map rowD) _ _
      refine for_ind (fun ds ρ S3 => ∃ (l2 d2 : Run) (kvs : List (NestedKey × D × D)) (x8 x9 x10 x11 : Option D), ds = l2.map rowD ∧ d2 ++ l2 = ss ∧ Tbl n ps row kvs (prs n.ni d2) ∧
        ρ = [some n.d, some (nmD ps), some (.lst (told.map rowD)), some (.lst (ps.map nat)), none, some (.lst (ss.map rowD)), some (rowD row), some (.ref fp), x8, x9, x10, x11, none] ∧ S3 = sup S' fp (.dn w fp kvs)) ?_ ?_ _ _ _ ⟨ss, [], [], _, _, _, _, rfl, rfl, Tbl.nil n ps row, rfl, rfl⟩
      · rintro ρ S3 ⟨l2, d2, kvs, x8, x9, x10, x11, e3, e4, ht, rfl, rfl⟩
        have : l2 = [] := by
          cases l2 with
          | nil => rfl
          | cons _ _ => cases e3
        subst this
        rw [List.append_nil] at e4
        subst e4
        exact hR _ _ ⟨kvs, _, _, _, _, ht, rfl, rfl⟩
      rintro d ds ρ S3 W hW ⟨l2, d2, kvs, x8, x9, x10, x11, e3, e4, ht, rfl, rfl⟩
      cases l2 with
      | nil => cases e3
      | cons s l2 =>
      injection e3 with e3 e5
      subst e3 e5
      clear hR
      have hsl : s.length = n.fs.length := h4 s (by rw [← e4]; exact List.mem_append_right _ List.mem_cons_self)
      have hd2 : d2.length ≤ 4096 := by
        have := congrArg List.length e4
        rw [List.length_append] at this
        omega
      have hi2 := hn.i2
      have hln := ins_len hn
      have hW := fun kvs x9 x10 x11 S'' ht e => hW [some n.d, some (nmD ps), some (.lst (told.map rowD)), some (.lst (ps.map nat)), none, some (.lst (ss.map rowD)), some (rowD row), some (.ref fp), some (rowD s), x9, x10, x11, none] S'' ⟨l2, d2 ++ [s], kvs, _, x9, x10, x11, rfl, by rw [List.append_assoc]; exact e4, ht, rfl, e⟩
      refine ⟨n.d, rfl, _, rfl, rfl, ?_⟩
      show m_value_rows [nat (n.ins.map D.str).length] _ _ _
      rw [hln]
      refine ⟨n.ni, rfl, by omega, ?_⟩
      show forR _ _ _ ((rowsB n.ni).map rowD) [some n.d, some (nmD ps), some (.lst (told.map rowD)), some (.lst (ps.map nat)), none, some (.lst (ss.map rowD)), some (rowD row), some (.ref fp), some (rowD s), x9, x10, x11, none] _
      refine for_ind (fun ds ρ S3 => ∃ (l3 d3 : Run) (kvs : List (NestedKey × D × D)) (x9 x10 x11 : Option D), ds = l3.map rowD ∧ d3 ++ l3 = rowsB n.ni ∧ Tbl n ps row kvs (prs n.ni d2 ++ d3.map fun i => (s, i)) ∧
        ρ = [some n.d, some (nmD ps), some (.lst (told.map rowD)), some (.lst (ps.map nat)), none, some (.lst (ss.map rowD)), some (rowD row), some (.ref fp), some (rowD s), x9, x10, x11, none] ∧ S3 = sup S' fp (.dn w fp kvs)) ?_ ?_ _ _ _ ⟨rowsB n.ni, [], kvs, _, _, _, rfl, rfl, by rw [List.map_nil, List.append_nil]; exact ht, rfl, rfl⟩
      · rintro ρ S3 ⟨l3, d3, kvs, x9, x10, x11, e5, e6, ht, rfl, rfl⟩
        have : l3 = [] := by
          cases l3 with
          | nil => rfl
          | cons _ _ => cases e5
        subst this
        rw [List.append_nil] at e6
        rw [e6, ← prs_snoc] at ht
        exact hW kvs _ _ _ _ ht rfl
      rintro d ds ρ S3 W hW ⟨l3, d3, kvs, x9, x10, x11, e5, e6, ht, rfl, rfl⟩
      cases l3 with
      | nil => cases e5
      | cons i l3 =>
      injection e5 with e5 e7
      subst e5 e7
      have hil : i.length = n.ni := (mem_rowsB _ _).mp (by rw [← e6]; exact List.mem_append_right _ List.mem_cons_self)
      have hW := fun kvs S'' ht e => hW [some n.d, some (nmD ps), some (.lst (told.map rowD)), some (.lst (ps.map nat)), none, some (.lst (ss.map rowD)), some (rowD row), some (.ref fp), some (rowD s), some (rowD i), some (rowD (n.out s i)), some (rowD (n.nxt s i)), none] S'' ⟨l3, d3 ++ [i], kvs, _, _, _, rfl, by rw [List.append_assoc]; exact e6, ht, rfl, e⟩
      have hpl : (prs n.ni d2 ++ d3.map fun i => (s, i)).length ≤ 4096 * 16 + 16 := by
        have e8 := congrArg List.length e6
        rw [List.length_append, rowsB_len] at e8
        have h16 : 2 ^ n.ni ≤ 16 := Nat.le_trans (Nat.pow_le_pow_right (by decide) hi2) (by decide)
        rw [List.length_append, prs_len, List.length_map]
        have := Nat.mul_le_mul hd2 h16
        omega
      have hkl := Nat.le_trans ht.len hpl
      show tdSeq _ _ _ [some n.d, some (nmD ps), some (.lst (told.map rowD)), some (.lst (ps.map nat)), none, some (.lst (ss.map rowD)), some (rowD row), some (.ref fp), some (rowD s), some (rowD i), x10, x11, none] _
      refine seq_cut (fun ρ S4 => ρ = [some n.d, some (nmD ps), some (.lst (told.map rowD)), some (.lst (ps.map nat)), none, some (.lst (ss.map rowD)), some (rowD row), some (.ref fp), some (rowD s), some (rowD i), some (rowD (n.out s i)), some (rowD (n.nxt s i)), none] ∧ S4 = sup S' fp (.dn w fp kvs)) (fun Rest hR => ?_) ?_
      · exact ⟨_, rfl, _, rfl, _, rfl, rfl, n, s, i, rfl, hn, hsl, hil, _, rfl, rfl, _, _, rfl, _, _, rfl, rfl, hR _ _ ⟨rfl, rfl⟩⟩
      rintro ρ S4 ⟨rfl, rfl⟩
      refine ifS_cut (decide (n.lo ps s i = row)) (fun Q' q => ?_) (fun hb => ?_) (fun hb => ?_)
      · refine ⟨_, rfl, ?_⟩
        show lcR 12 _ _ _ (ps.map nat) [] _ _
        refine see_gen (out := n.out s i) (i := 10) (v := 12) (by decide) rfl (show 12 < 13 by decide) (fun p hpm => by rw [out_len]; exact hp p hpm) hp2 ?_
        dsimp only [tdNil, tdCons]
        refine gTuple_lst ⟨_, rfl, ?_⟩
        exact eq_row (a := n.lo ps s i) (b := row) ⟨_, rfl, q⟩
      · have hb := of_decide_eq_true hb
        refine ⟨_, rfl, _, rfl, fp, kvs, rowK (n.nxt s i), rfl, sup_same, row_key _, Nat.lt_of_lt_of_le (show kvs.length < 4096 * 16 + 17 by omega) (sz5 (by decide)), ?_⟩
        refine hW _ _ ?_ (by rw [sup_sup])
        rw [List.map_append, ← List.append_assoc]
        exact ht.put (p := (s, i)) hb _
      · have hb := of_decide_eq_false hb
        refine hW _ _ ?_ rfl
        rw [List.map_append, ← List.append_assoc]
        exact ht.skip (p := (s, i)) hb
    rintro ρ S3 ⟨kvs, x8, x9, x10, x11, ht, rfl, rfl⟩
    obtain ⟨rs, t1, t2, t3, t4⟩ := ht.ex
    have hlen : ∀ x ∈ rs, x.length = n.fs.length := fun x hx => by
      obtain ⟨p, _, _, e⟩ := (t4 x).mp hx
      rw [← e, nxt_len, hn.n1]
    have hf1 := hn.f1
    have hi2 := hn.i2
    rw [prs_len] at t3
    have hrl : rs.length ≤ (2 ^ n.ni) ^ (done ++ [row]).length := by
      rw [List.length_append]
      show _ ≤ (2 ^ n.ni) ^ (done.length + 1)
      rw [Nat.pow_succ]
      exact Nat.le_trans t3 (Nat.mul_le_mul_right _ h3)
    have hrl2 : rs.length ≤ 4096 := Nat.le_trans hrl (pow_le (by rw [List.length_append]; exact hdl) hk)
    refine ⟨_, rfl, fp, kvs, rs, rfl, sup_same, t1, fun x hx e => ?_, by omega, fun out ho => ?_⟩
    · have := hlen x hx
      rw [e] at this
      have : 0 = n.fs.length := this
      omega
    · have hmem : ∀ x, x ∈ out ↔ x ∈ rs := fun x => ho.mem_iff
      refine hW _ _ ⟨l, done ++ [row], out, _, _, _, _, _, _, rfl, by rw [List.append_assoc]; exact e2, rfl, Sub.tr h1 (Sub.new hfp), h2.next fun s' => ?_, by rw [ho.length_eq]; exact hrl, fun x hx => hlen x ((hmem x).mp hx)⟩
      rw [hmem, t4]
      constructor
      · rintro ⟨p, p1, p2, p3⟩
        obtain ⟨s, s1, s2⟩ := List.mem_flatMap.mp p1
        obtain ⟨i, i1, rfl⟩ := List.mem_map.mp s2
        exact ⟨s, s1, i, (mem_rowsB _ _).mp i1, p2, p3⟩
      · rintro ⟨s, s1, i, i1, p2, p3⟩
        exact ⟨(s, i), List.mem_flatMap.mpr ⟨s, s1, List.mem_map.mpr ⟨i, (mem_rowsB _ _).mpr i1, rfl⟩⟩, p2, p3⟩
  rintro ρ S1 ⟨ss, x6, x7, x8, x9, x10, x11, rfl, hsub, hb1, hb2, hb3⟩
  exact ⟨_, rfl, fini' hsub (hq ss hb1 hb2 hb3)⟩
end K06
namespace K06
open PySem PySem.Spec L2 DL
local macro_rules | `(tactic| walk_at "nd") => `(tactic| simp only [icO, isN0, gCatB, gEq_bb, tdLcB, tdDNew, tdNNew, tdNGet, tdNPut, tdFGet, tdiF, tdDctF, tdDc, tdDcN, tdTru, tdDAugG, tdDictZ, tdCallV, tdLc2, ln_4, ln_5, ln_6, fmod_2, fdiv_2, gAddT, tdIdx, gdUnl, tdiD, gSortI, gMin2, gMax2, gTuple, gDictP, tdLcT, lcT, setD, unsetD, tdKGet, tdKGet2, tdGet2, tdPop, tdSeq, tdAsg, tdV, gdName, tdAnd, tdOr, tdNot, tdB, tdOp, tdCB, tdCons, tdNil, tdC, tdAug, tdSl, tdP, tdRet, tdTup, tdIf, tdIfS, gOrd, gI0, gI, gLen, gIx, gAdd, gInt, vw, ixP, gSl, tdDrop, tdRetN, tdNext, gIn_sc, gIn_ts, gIn_ls, gIn_t2, gIn_l2, gIn_l4, tdApp, sl_0, sl_1, sl_2, sl_3, sl_4, sl_5, ff, tt', true_and, id,
  eqS, tdFor, tdiT, tdiL, tdiR, tdXp, gList, gEq_ns, tdJoin, gJoin, vwS, gMul, gMod, gDiv, gPow, gI, tdAugS, gdSub, gSet, ixN_2, ixN_3, atI_3, atI_4, gEq_ss, gEq_ii, tdDict, tdPairs, tdNeg, Option.isNone_none, Option.isNone_some, gIsi, tdGet, tdDPut, tdDAug, tdIsN, tdNotN, DO.dic.injEq, Option.isNone_none, Option.isNone_some, gIn_l2, gIn_t2, Option.getD_some, tdLc, gMax, tdNoP, forR, tdRaise, tdCall, tdNotV, tdAndV, tdOrV, tdBox, tdZ, gdTup, gdCons, gdNil, tdBreak, tdCont, tdYes, icast, icast1, icast2, icast3, tdLst, gIn_l4, icastL, icastE, icastZ, ln_0, ln_1, ln_2, ln_3,
  List.getElem?_cons_zero, List.getElem?_cons_succ, List.set_cons_zero, List.set_cons_succ, Option.some.injEq, exists_eq_left', exists_eq_left, D.bl.injEq, decide_eq_true_eq,
  tdFldC, tdMeth, tdMake, tdPutF, tdAugF, D.ref.injEq, DO.ins.injEq, and_assoc, DL.gSub, D.int.injEq, D.str.injEq, sup_same, eq_self, not_true_eq_false, not_false_eq_true, Bool.false_eq_true, Bool.not_eq_true, decide_not, atIn, atI_0, atI_1, atI_2, List.getElem?_map, Option.map_some, Option.map_none, decide_true, decide_false, Bool.not_true, Bool.not_false, if_true, if_false, lm_0, lm_1, lm_2, List.length_map, exists_and_left, *])
variable {P : Program} {w : World} {K : PySem.W.Frag} {mg : Str → Option Value} {base : Heap}
theorem lcR_pick {α : Type} {v : Nat} {tt : TDT} {te : TD} {ρ : Rho} (J : Store → Prop) (f : α → D) : ∀ (L : List α) (acc : List D) (S : Store) (Q : List D → Store → Prop),
    (∀ x ∈ L, ∀ S, J S → ∀ Q' : Bool → Store → Prop, (∀ b S', J S' → Q' b S') → tt (ρ.set v (some (f x))) S Q') → (∀ x ∈ L, ∀ (S : Store) (Q' : D → Store → Prop), Q' (f x) S → te (ρ.set v (some (f x))) S Q') →
    acc.length + L.length ≤ 100000 → J S → (∀ (sub : List α) S', (∀ x ∈ sub, x ∈ L) → sub.length ≤ L.length → J S' → Q (acc ++ sub.map f) S') → lcR v tt te ρ (L.map f) acc S Q
  | [], acc, S, Q, _, _, _, j, q => by
    have := q [] S (fun x h => h) (Nat.le_refl _) j
    rw [List.map_nil, List.append_nil] at this
    exact this
  | x :: L, acc, S, Q, ht, he, hl, j, q => by
    rw [List.length_cons] at hl
    rw [List.map_cons]
    unfold lcR
    refine ht x List.mem_cons_self S j _ fun b S' j' => ?_
    cases b with
    | true =>
      refine iteT (he x List.mem_cons_self S' _ ⟨Nat.lt_of_lt_of_le (show acc.length < 100001 by omega) (sz5 (by omega)), ?_⟩)
      refine lcR_pick J f L (acc ++ [f x]) S' Q (fun k hk => ht k (List.mem_cons_of_mem _ hk)) (fun k hk => he k (List.mem_cons_of_mem _ hk)) (by rw [List.length_append]; show acc.length + 1 + L.length ≤ _; omega) j' fun sub S2 h1 h2 j2 => ?_
      have := q (x :: sub) S2 (fun u hu => (List.mem_cons.mp hu).elim (fun z => by rw [z]; exact List.mem_cons_self) fun z => List.mem_cons_of_mem _ (h1 u z)) (by rw [List.length_cons, List.length_cons]; omega) j2
      rw [List.map_cons] at this
      rw [List.append_assoc]
      exact this
    | false =>
      refine iteF (lcR_pick J f L acc S' Q (fun k hk => ht k (List.mem_cons_of_mem _ hk)) (fun k hk => he k (List.mem_cons_of_mem _ hk)) (by omega) j' fun sub S2 h1 h2 j2 => ?_)
      exact q sub S2 (fun u hu => List.mem_cons_of_mem _ (h1 u hu)) (by rw [List.length_cons]; omega) j2
theorem lcR_filS {α : Type} {v : Nat} {tt : TDT} {te : TD} {ρ : Rho} (S0 : Store) (f : α → D) (p : α → Bool) : ∀ (L : List α) (acc : List D) (S : Store) (Q : List D → Store → Prop),
    (∀ x ∈ L, ∀ S, Sub S0 S → ∀ Q' : Bool → Store → Prop, (∀ S', Sub S0 S' → Q' (p x) S') → tt (ρ.set v (some (f x))) S Q') → (∀ x ∈ L, ∀ (S : Store) (Q' : D → Store → Prop), Q' (f x) S → te (ρ.set v (some (f x))) S Q') →
    acc.length + L.length ≤ 100000 → Sub S0 S → (∀ S', Sub S0 S' → Q (acc ++ (L.filter p).map f) S') → lcR v tt te ρ (L.map f) acc S Q
  | [], acc, S, Q, _, _, _, j, q => by
    have := q S j
    rw [List.filter_nil, List.map_nil, List.append_nil] at this
    exact this
  | x :: L, acc, S, Q, ht, he, hl, j, q => by
    rw [List.length_cons] at hl
    rw [List.map_cons]
    unfold lcR
    refine ht x List.mem_cons_self S j _ fun S' j' => ?_
    cases e : p x with
    | true =>
      rw [List.filter_cons_of_pos e] at q
      refine iteT (he x List.mem_cons_self S' _ ⟨Nat.lt_of_lt_of_le (show acc.length < 100001 by omega) (sz5 (by omega)), ?_⟩)
      refine lcR_filS S0 f p L (acc ++ [f x]) S' Q (fun k hk => ht k (List.mem_cons_of_mem _ hk)) (fun k hk => he k (List.mem_cons_of_mem _ hk)) (by rw [List.length_append]; show acc.length + 1 + L.length ≤ _; omega) j' fun S2 j2 => ?_
      have := q S2 j2
      rw [List.map_cons] at this
      rw [List.append_assoc]
      exact this
    | false =>
      rw [List.filter_cons_of_neg (by rw [e]; simp)] at q
      exact iteF (lcR_filS S0 f p L acc S' Q (fun k hk => ht k (List.mem_cons_of_mem _ hk)) (fun k hk => he k (List.mem_cons_of_mem _ hk)) (by omega) j' q)
theorem lcR_drawn {α : Type} {v : Nat} {te : TD} {ρ : Rho} (J : Store → Prop) (f : α → D) {β : Type} (g : β → D) (Pp : β → Prop) : ∀ (L : List α) (acc : List D) (S : Store) (Q : List D → Store → Prop),
    (∀ x ∈ L, ∀ S, J S → ∀ Q' : D → Store → Prop, (∀ y S', Pp y → J S' → Q' (g y) S') → te (ρ.set v (some (f x))) S Q') →
    acc.length + L.length ≤ 100000 → J S → (∀ (ys : List β) S', (∀ y ∈ ys, Pp y) → ys.length = L.length → J S' → Q (acc ++ ys.map g) S') → lcR v tdYes te ρ (L.map f) acc S Q
  | [], acc, S, Q, _, _, j, q => by
    have := q [] S (fun x h => nomatch h) rfl j
    rw [List.map_nil, List.append_nil] at this
    exact this
  | x :: L, acc, S, Q, ht, hl, j, q => by
    rw [List.length_cons] at hl
    rw [List.map_cons]
    unfold lcR
    show if true = true then (te (ρ.set v (some (f x))) S fun y S2 => acc.length < sizeLine ∧ lcR v tdYes te ρ (L.map f) (acc ++ [y]) S2 Q) else (lcR v tdYes te ρ (L.map f) acc S Q)
    refine iteT (ht x List.mem_cons_self S j _ fun y S' hy j' => ⟨Nat.lt_of_lt_of_le (show acc.length < 100001 by omega) (sz5 (by omega)), ?_⟩)
    refine lcR_drawn J f g Pp L (acc ++ [g y]) S' Q (fun k hk => ht k (List.mem_cons_of_mem _ hk)) (by rw [List.length_append]; show acc.length + 1 + L.length ≤ _; omega) j' fun ys S2 h1 h2 j2 => ?_
    have := q (y :: ys) S2 (fun u hu => (List.mem_cons.mp hu).elim (fun z => by rw [z]; exact hy) fun z => h1 u z) (by rw [List.length_cons, List.length_cons, h2]) j2
    rw [List.map_cons] at this
    rw [List.append_assoc]
    exact this
theorem Dw.sub {a : Addr} {S0 S S' : Store} (h : Dw a S0 S) (hs : Sub S S') : Dw a S0 S' := by
  obtain ⟨o, ho, ha⟩ := h.o
  exact ⟨⟨o, ho, hs _ _ ha⟩, fun b u hb e => hs _ _ (h.k b u hb e)⟩
/-- dict([(registers[k], ..) ..]) -/
theorem prs_ok {s : List Bool} {f : Nat} (h : s.length = f) (h4 : f ≤ 4) : pairsD ((List.range' 0 f).map fun k => D.tup [.str (rgT k), .bl (s.getD k false)]) = some (((rgN.take f).map Sum.inr).zip (bD s)) := by
  match s, h with
  | [], rfl => rfl
  | [a], rfl => rfl
  | [a, b], rfl => rfl
  | [a, b, c], rfl => rfl
  | [a, b, c, d], rfl => rfl
  | _ :: _ :: _ :: _ :: _ :: _, rfl => exact absurd h4 (by show ¬ _ + 1 + 1 + 1 + 1 + 1 ≤ 4; omega)
theorem ou_rng {m : Nat} (h : m ≤ 3) : (ouN.take m).map D.str = (List.range m).map fun p => D.str (ouT p) := by
  obtain rfl | rfl | rfl | rfl : m = 0 ∨ m = 1 ∨ m = 2 ∨ m = 3 := by omega
  all_goals rfl
theorem ou_eqv {p q : Nat} (hp : p < 3) (hq : q < 3) : PyData.eqv (D.str (ouT p)).data (D.str (ouT q)).data = decide (p = q) := by
  obtain rfl | rfl | rfl : p = 0 ∨ p = 1 ∨ p = 2 := by omega
  all_goals (obtain rfl | rfl | rfl : q = 0 ∨ q = 1 ∨ q = 2 := by omega)
  all_goals decide +kernel
theorem ou_lay {p : Nat} (hp : p < 3) : PyData.canLay0 (D.str (ouT p)).data = true := by
  obtain rfl | rfl | rfl : p = 0 ∨ p = 1 ∨ p = 2 := by omega
  all_goals decide +kernel
theorem nm_pure : ∀ ps : List Nat, D.pures (ps.map fun p => D.str (ouT p)) = true
  | [] => rfl
  | p :: ps => by show (true && D.pures (ps.map fun p => D.str (ouT p))) = true; rw [nm_pure ps]; rfl
theorem nm_lay : ∀ ps : List Nat, (∀ p ∈ ps, p < 3) → PyData.canLayAll0 (D.datas (ps.map fun p => D.str (ouT p))) = true ∧ PyData.depthAll (D.datas (ps.map fun p => D.str (ouT p))) = 0
  | [], _ => ⟨rfl, rfl⟩
  | p :: ps, h => by
    obtain ⟨h1, h2⟩ := nm_lay ps fun q hq => h q (List.mem_cons_of_mem _ hq)
    refine ⟨?_, ?_⟩
    · show (PyData.canLay0 (D.str (ouT p)).data && PyData.canLayAll0 (D.datas (ps.map fun p => D.str (ouT p)))) = true
      rw [h1, ou_lay (h p List.mem_cons_self)]; rfl
    · show max 0 (PyData.depthAll (D.datas (ps.map fun p => D.str (ouT p)))) = 0
      rw [h2]; rfl
theorem nm_shaped {ps : List Nat} (h : ∀ p ∈ ps, p < 3) : SeqAt.shaped (nmD ps).data = true := by
  obtain ⟨h1, h2⟩ := nm_lay ps h
  show (PyData.canLayAll0 (D.datas (ps.map fun p => D.str (ouT p))) && decide (PyData.depthAll (D.datas (ps.map fun p => D.str (ouT p))) + 1 ≤ 64)) = true
  rw [h1, h2]; rfl
theorem nm_eqv : ∀ a b : List Nat, (∀ p ∈ a, p < 3) → (∀ p ∈ b, p < 3) → PyData.eqvAll (D.datas (a.map fun p => D.str (ouT p))) (D.datas (b.map fun p => D.str (ouT p))) = decide (a = b)
  | [], [], _, _ => rfl
  | [], _ :: _, _, _ => rfl
  | _ :: _, [], _, _ => rfl
  | x :: a, y :: b, ha, hb => by
    show (PyData.eqv (D.str (ouT x)).data (D.str (ouT y)).data && PyData.eqvAll (D.datas (a.map fun p => D.str (ouT p))) (D.datas (b.map fun p => D.str (ouT p)))) = _
    rw [ou_eqv (ha x List.mem_cons_self) (hb y List.mem_cons_self), nm_eqv a b (fun q hq => ha q (List.mem_cons_of_mem _ hq)) fun q hq => hb q (List.mem_cons_of_mem _ hq)]
    by_cases h1 : x = y <;> by_cases h2 : a = b <;> simp [h1, h2]
theorem eq_nm {f : Bool → Bool} {S : Store} {a b : List Nat} {Q : D → Store → Prop} (ha : ∀ p ∈ a, p < 3) (hb : ∀ p ∈ b, p < 3) (q : Q (.bl (f (decide (a = b)))) S) : gEq f S (nmD a) (nmD b) Q := by
  unfold gEq
  rw [show eqS (nmD a) (nmD b) = none from rfl]
  show _ ∧ _ ∧ _ ∧ _ ∧ Q (.bl (f (PyData.eqvAll (D.datas (a.map fun p => D.str (ouT p))) (D.datas (b.map fun p => D.str (ouT p)))))) S
  rw [nm_eqv a b ha hb]
  exact ⟨nm_pure a, nm_pure b, nm_shaped ha, nm_shaped hb, q⟩
theorem eq_nil {S : Store} {l : Run} {Q : D → Store → Prop} (q : Q (.bl l.isEmpty) S) : gEq id S (.lst (l.map rowD)) (.lst []) Q := by
  unfold gEq
  rw [show eqS (.lst (l.map rowD)) (.lst []) = none from rfl]
  show _ ∧ _ ∧ _ ∧ _ ∧ Q (.bl (id (PyData.eqvAll (D.datas (l.map rowD)) (D.datas [])))) S
  have e : PyData.eqvAll (D.datas (l.map rowD)) (D.datas []) = l.isEmpty := by
    cases l <;> rfl
  rw [e]
  exact ⟨rows_pure l, rfl, rowl_shaped l, by show SeqAt.shaped (D.lst []).data = true; decide +kernel, q⟩
end K06
namespace K06
open PySem PySem.Spec L2 DL
local macro_rules | `(tactic| walk_at "nd") => `(tactic| simp only [icO, isN0, gCatB, gEq_bb, tdLcB, tdDNew, tdNNew, tdNGet, tdNPut, tdFGet, tdiF, tdDctF, tdDc, tdDcN, tdTru, tdDAugG, tdDictZ, tdCallV, tdLc2, ln_4, ln_5, ln_6, fmod_2, fdiv_2, gAddT, tdIdx, gdUnl, tdiD, gSortI, gMin2, gMax2, gTuple, gDictP, tdLcT, lcT, setD, unsetD, tdKGet, tdKGet2, tdGet2, tdPop, tdSeq, tdAsg, tdV, gdName, tdAnd, tdOr, tdNot, tdB, tdOp, tdCB, tdCons, tdNil, tdC, tdAug, tdSl, tdP, tdRet, tdTup, tdIf, tdIfS, gOrd, gI0, gI, gLen, gIx, gAdd, gInt, vw, ixP, gSl, tdDrop, tdRetN, tdNext, gIn_sc, gIn_ts, gIn_ls, gIn_t2, gIn_l2, gIn_l4, tdApp, sl_0, sl_1, sl_2, sl_3, sl_4, sl_5, ff, tt', true_and, id,
  eqS, tdFor, tdiT, tdiL, tdiR, tdXp, gList, gEq_ns, tdJoin, gJoin, vwS, gMul, gMod, gDiv, gPow, gI, tdAugS, gdSub, gSet, ixN_2, ixN_3, atI_3, atI_4, gEq_ss, gEq_ii, tdDict, tdPairs, tdNeg, Option.isNone_none, Option.isNone_some, gIsi, tdGet, tdDPut, tdDAug, tdIsN, tdNotN, DO.dic.injEq, Option.isNone_none, Option.isNone_some, gIn_l2, gIn_t2, Option.getD_some, tdLc, gMax, tdNoP, forR, tdRaise, tdCall, tdNotV, tdAndV, tdOrV, tdBox, tdZ, gdTup, gdCons, gdNil, tdBreak, tdCont, tdYes, icast, icast1, icast2, icast3, tdLst, gIn_l4, icastL, icastE, icastZ, ln_0, ln_1, ln_2, ln_3,
  List.getElem?_cons_zero, List.getElem?_cons_succ, List.set_cons_zero, List.set_cons_succ, Option.some.injEq, exists_eq_left', exists_eq_left, D.bl.injEq, decide_eq_true_eq,
  tdFldC, tdMeth, tdMake, tdPutF, tdAugF, D.ref.injEq, DO.ins.injEq, and_assoc, DL.gSub, D.int.injEq, D.str.injEq, sup_same, eq_self, not_true_eq_false, not_false_eq_true, Bool.false_eq_true, Bool.not_eq_true, decide_not, atIn, atI_0, atI_1, atI_2, List.getElem?_map, Option.map_some, Option.map_none, decide_true, decide_false, Bool.not_true, Bool.not_false, if_true, if_false, lm_0, lm_1, lm_2, List.length_map, exists_and_left, *])
variable {P : Program} {w : World} {K : PySem.W.Frag} {mg : Str → Option Value} {base : Heap}
def m_law_holds : M := fun ds S Q E => ∃ (a : Addr) (o : DO), ds = [.ref a] ∧ S a = some o ∧ DrO o ∧ ∀ S', (∀ b u, b ≠ a → S b = some u → S' b = some u) → Q (.bl true) S'
theorem gLen_tup {S : Store} {xs : List D} {Q : D → Store → Prop} : gLen S [.tup xs] Q = Q (.int (xs.length : Nat)) S := rfl
theorem gLen_lst {S : Store} {xs : List D} {Q : D → Store → Prop} : gLen S [.lst xs] Q = Q (.int (xs.length : Nat)) S := rfl
theorem nmD_eq (ps : List Nat) : nmD ps = .lst ((ps.map ouT).map D.str) := by unfold nmD; rw [List.map_map]; rfl
theorem dict_go {i : Nat} {ρ : Rho} {S : Store} {s : List Bool} {f : Nat} {Q : List D → Store → Prop} (hi9 : i ≠ 9) (h10 : ρ[10]? = some (some (.lst ((rgN.take f).map D.str)))) (hi : ρ[i]? = some (some (rowD s))) (h9 : 9 < ρ.length) (hs : s.length = f) (hf : f ≤ 4)
    (q : Q ((List.range' 0 f).map fun k => .tup [.str (rgT k), .bl (s.getD k false)]) S) : lcR 9 tdYes (tdTup (tdCons (tdOp gIx (tdV 10) (tdV 9)) (tdCons (tdOp gIx (tdV i) (tdV 9)) tdNil))) ρ ((List.range' 0 f).map nat) [] S Q := by
  refine lcR_n (fun k => .tup [.str (rgT k), .bl (s.getD k false)]) (List.range' 0 f) [] S (fun k hk Q' q' => ?_) (by rw [List.length_range']; show 0 + f ≤ _; omega) (by rw [List.nil_append]; exact q)
  have hk2 := List.mem_range'_1.mp hk
  have hkf : k < f := by omega
  refine ⟨_, by rw [List.getElem?_set_ne (by decide)]; exact h10, _, by rw [List.getElem?_set_self h9], .str (rgT k), ?_, _, by rw [List.getElem?_set_ne hi9.symm]; exact hi, _, by rw [List.getElem?_set_self h9], .bl (s.getD k false), ?_, sz5 (show 2 ≤ 1000000 by decide), q'⟩
  · show atI ((rgN.take f).map D.str) ((k : Nat) : Int) = _
    rw [atIn, List.getElem?_map, List.getElem?_take_of_lt hkf]
    unfold rgT
    rw [List.getD_eq_getElem?_getD, List.getElem?_eq_getElem (show k < rgN.length by show k < 4; omega)]
    rfl
  · show atI (bD s) ((k : Nat) : Int) = _
    rw [atIn]
    unfold bD
    rw [List.getElem?_map, List.getD_eq_getElem?_getD, List.getElem?_eq_getElem (show k < s.length by omega)]
    rfl
theorem ask_of {n : Net} (hn : n.ok) {pa pb : List Nat} {run : Run} {c : Cl} (ha : ∀ p ∈ pa, p < n.os.length) (hb : ∀ p ∈ pb, p < n.os.length) (la : pa.length ≤ 3) (lb : pb.length ≤ 6) (hr : run ∈ runsB n.ni run.length) (hk : n.ni * run.length ≤ 4) (hc : c.ok n.fs.length) (hd : c.dp < 6) : Ask n pa pb run c :=
  ⟨hn, ha, hb, by omega, by omega, hr, by omega, hc, hd⟩
theorem d__law_holds (Z : Zf P w K mg base) : Ca P w K mg base 9 "_law_holds" ["state"] m_law_holds := by
  obtain ⟨fd, F, hb⟩ := Z.F__law_holds
  refine ⟨_, fd, df_of (k := 8) F sc__law_holds (fun cdv A outer s H E F0 E' B => (dss_cons (ds_set 1 nd__law_holds (de_ca (d__law_net Z) (B.mono (by omega)) rfl (da_cons (de_ca (d__law_design Z) (B.mono (by omega)) rfl (da_cons (dv 0) (da_cons (de_op od_addT de_int (de_cT oc_int rfl Z.f_int bb_int (da_cons (de_cmp (od_eq B.units) (de_ca (d__law_next Z) (B.mono (by omega)) rfl (da_cons (dv 0) (da_cons de_int da_nil))) de_int rfl) da_nil))) (da_cons (de_op od_addT de_int (de_ca (d__law_next Z) (B.mono (by omega)) rfl (da_cons (dv 0) (da_cons de_int da_nil)))) (da_cons de_int da_nil))))) (da_cons (de_cmp (od_eq B.units) (de_ca (d__law_next Z) (B.mono (by omega)) rfl (da_cons (dv 0) (da_cons de_int da_nil))) de_int rfl) da_nil))))
    (dss_cons (ds_set 2 nd__law_holds (de_lcT [3, 4] rfl rfl nd__law_holds (di_tup (de_ix (dv 1) de_int)) (blkOk_by (own := [("name", 3), ("literal", 4)]) (N := N__law_holds) (sc := defScope st__law_holds) (by decide +kernel)) (fun _ _ _ _ _ => pg_tup rfl (pgs_cons (pg_name (i := 3) nd__law_holds rfl (Or.inl rfl)) (pgs_cons (pg_name (i := 4) nd__law_holds rfl (Or.inl rfl)) pgs_nil))) (fun _ _ _ _ _ => dts_nil) (fun _ _ _ _ _ => (dv 3))))
    (dss_cons (ds_set 5 nd__law_holds (de_lc rfl nd__law_holds (di_lst (dv 2)) (blkOk_by (own := [("name", 3)]) (N := N__law_holds) (sc := defScope st__law_holds) (by decide +kernel)) (fun _ _ _ _ _ => pg_name (i := 3) nd__law_holds rfl (Or.inl rfl)) (fun _ _ _ _ _ => (dts_one (dt_cmp (od_eq B.blk.units) (de_ca (d__law_next Z) (B.blk.mono (by omega)) rfl (da_cons (dv 0) (da_cons de_int da_nil))) de_int rfl))) (fun _ _ _ _ _ => (dv 3))))
    (dss_cons (ds_set 6 nd__law_holds (de_dctF (.cons de_str (dv 5) (.cons de_str (de_op od_addT (dv 5) (de_lc rfl nd__law_holds (di_lst (dv 2)) (blkOk_by (own := [("name", 3)]) (N := N__law_holds) (sc := defScope st__law_holds) (by decide +kernel)) (fun _ _ _ _ _ => pg_name (i := 3) nd__law_holds rfl (Or.inl rfl)) (fun _ _ _ _ _ => (dts_one (PW.pt (dw_and (dt_cmp od_nin (dv 3) (dv 5) rfl) (dw_and1 (dt_cmp (od_eq B.blk.units) (de_ca (d__law_next Z) (B.blk.mono (by omega)) rfl (da_cons (dv 0) (da_cons de_int da_nil))) de_int rfl)))))) (fun _ _ _ _ _ => (dv 3)))) .nil))))
    (dss_cons (ds_set 7 nd__law_holds (de_ca (d__law_all_rows Z) (B.mono (by omega)) rfl (da_cons (de_cB oc_len rfl Z.f_len bb_len (da_cons (de_ix (dv 1) de_int) da_nil)) da_nil)))
    (dss_cons (ds_set 8 nd__law_holds (de_cT oc_tuple rfl Z.f_tuple bb_tuple (da_cons (de_lc rfl nd__law_holds (di_rng rfl Z.f_range (da_cons (de_ca (d__law_next Z) (B.mono (by omega)) rfl (da_cons (dv 0) (da_cons (de_if (dt_cmp (od_eq B.units) (de_cB oc_len rfl Z.f_len bb_len (da_cons (de_ix (dv 1) de_int) da_nil)) de_int rfl) de_int de_int) da_nil))) da_nil)) (blkOk_by (own := [("k", 9)]) (N := N__law_holds) (sc := defScope st__law_holds) (by decide +kernel)) (fun _ _ _ _ _ => pg_name (i := 9) nd__law_holds rfl (Or.inl rfl)) (fun _ _ _ _ _ => dts_nil) (fun _ _ _ _ _ => (de_ix (dv 7) (de_ca (d__law_next Z) (B.blk.mono (by omega)) rfl (da_cons (dv 0) (da_cons (de_cB oc_len rfl Z.f_len bb_len (da_cons (dv 7) da_nil)) da_nil)))))) da_nil)))
    (dss_cons (ds_set 10 nd__law_holds (de_lcT [3, 11] rfl rfl nd__law_holds (di_tup (de_ix (dv 1) de_int)) (blkOk_by (own := [("name", 3), ("value", 11)]) (N := N__law_holds) (sc := defScope st__law_holds) (by decide +kernel)) (fun _ _ _ _ _ => pg_tup rfl (pgs_cons (pg_name (i := 3) nd__law_holds rfl (Or.inl rfl)) (pgs_cons (pg_name (i := 11) nd__law_holds rfl (Or.inl rfl)) pgs_nil))) (fun _ _ _ _ _ => dts_nil) (fun _ _ _ _ _ => (dv 3))))
    (dss_cons (ds_set 12 nd__law_holds (de_ca (lclaims Z 3) (B.mono (by omega)) rfl (da_cons (dv 0) (da_cons (dv 10) (da_cons de_int da_nil)))))
    (dss_cons (ds_set 13 nd__law_holds (de_ca (lclaims Z 3) (B.mono (by omega)) rfl (da_cons (dv 0) (da_cons (dv 10) (da_cons de_int da_nil)))))
    (dss_cons (ds_set 14 nd__law_holds (de_ca (d__law_first Z) (B.mono (by omega)) rfl (da_cons (dv 1) da_nil)))
    (dss_cons (ds_set 15 nd__law_holds (de_box da_nil))
    (dss_cons (ds_for (passes_of rfl) rfl (di_tup (dv 8)) (dg_name 16 nd__law_holds) (dss_cons (ds_asg (de_ca (d__law_clock Z) (B.mono (by omega)) rfl (da_cons (dv 1) (da_cons (dv 14) (da_cons (dv 16) (da_cons de_non da_nil))))) (dg_tup (n := 2) rfl (dgs_cons (dg_name 17 nd__law_holds) (dgs_cons (dg_name 14 nd__law_holds) dgs_nil))))
    (dss_one (ds_expr (de_app (dv 15) (de_cT oc_tuple rfl Z.f_tuple bb_tuple (da_cons (de_lc rfl nd__law_holds (di_lst (dv 5)) (blkOk_by (own := [("name", 3)]) (N := N__law_holds) (sc := defScope st__law_holds) (by decide +kernel)) (fun _ _ _ _ _ => pg_name (i := 3) nd__law_holds rfl (Or.inl rfl)) (fun _ _ _ _ _ => dts_nil) (fun _ _ _ _ _ => (de_ix (dv 17) (de_index (hu65 B.blk.room) (dv 2) (dv 3))))) da_nil)))))))
    (dss_cons (ds_set 18 nd__law_holds (de_ca (lvalues Z 3) (B.mono (by omega)) rfl (da_cons (dv 12) (da_cons (de_cT (oc_dictP rfl) rfl Z.f_dict bb_dict (da_cons (de_lc rfl nd__law_holds (di_rng rfl Z.f_range (da_cons (de_cB oc_len rfl Z.f_len bb_len (da_cons (dv 10) da_nil)) da_nil)) (blkOk_by (own := [("k", 9)]) (N := N__law_holds) (sc := defScope st__law_holds) (by decide +kernel)) (fun _ _ _ _ _ => pg_name (i := 9) nd__law_holds rfl (Or.inl rfl)) (fun _ _ _ _ _ => dts_nil) (fun _ _ _ _ _ => (de_tup (da_cons (de_ix (dv 10) (dv 9)) (da_cons (de_ix (dv 14) (dv 9)) da_nil))))) da_nil)) da_nil))))
    (dss_cons (ds_set 19 nd__law_holds (de_tup (da_cons de_str (da_cons de_str (da_cons (dv 12) da_nil)))))
    (dss_cons (ds_set 20 nd__law_holds (de_ca (d_known_after Z) (B.mono (by omega)) rfl (da_cons (dv 1) (da_cons (dv 6) (da_cons (dv 8) (da_cons (dv 19) da_nil))))))
    (dss_cons (ds_if (PW.pt (dw_or (dt_cmp (od_ne B.units) (de_ca (d_known_after Z) (B.mono (by omega)) rfl (da_cons (dv 1) (da_cons (dv 6) (da_cons (dv 8) (da_cons (dv 12) da_nil))))) (dv 18) rfl) (dw_or1 (PW.pt (dw_and (dt_val (dv 20)) (dw_and1 (dt_not (dt_val (dv 18))))))))) (dss_one (ds_ret de_bl)) dss_nil)
    (dss_cons (ds_set 21 nd__law_holds (de_ca (d_known_after Z) (B.mono (by omega)) rfl (da_cons (dv 1) (da_cons (dv 6) (da_cons (dv 8) (da_cons (de_tup (da_cons de_str (da_cons de_str (da_cons (de_tup (da_cons de_str (da_cons (dv 12) (da_cons (dv 13) da_nil)))) da_nil)))) da_nil))))))
    (dss_cons (ds_if (dt_cmp (od_ne B.units) (dv 21) (de_and (dv 20) (de_one (de_ca (d_known_after Z) (B.mono (by omega)) rfl (da_cons (dv 1) (da_cons (dv 6) (da_cons (dv 8) (da_cons (de_tup (da_cons de_str (da_cons de_str (da_cons (dv 13) da_nil)))) da_nil))))))) rfl) (dss_one (ds_ret de_bl)) dss_nil)
    (dss_cons (ds_if (PW.pt (dw_or (dt_cmp (od_ne B.units) (de_ca (d_known_after Z) (B.mono (by omega)) rfl (da_cons (dv 1) (da_cons (dv 6) (da_cons (dv 8) (da_cons (de_tup (da_cons de_str (da_cons de_str (da_cons (dv 19) da_nil)))) da_nil))))) (dv 20) rfl) (dw_or1 (dt_cmp (od_eq B.units) (de_ca (d_known_after Z) (B.mono (by omega)) rfl (da_cons (dv 1) (da_cons (dv 6) (da_cons (dv 8) (da_cons (de_tup (da_cons de_str (da_cons de_str (da_cons (de_tup (da_cons de_str (da_cons (dv 19) (da_cons (de_tup (da_cons de_str da_nil)) da_nil)))) da_nil)))) da_nil))))) (dv 20) rfl)))) (dss_one (ds_ret de_bl)) dss_nil)
    (dss_cons (ds_if (PW.pt (dw_and (dt_val (dv 20)) (dw_and (dt_not (dt_val (de_ca (d_known_after Z) (B.mono (by omega)) rfl (da_cons (dv 1) (da_cons (dv 6) (da_cons (dv 8) (da_cons (de_tup (da_cons de_str (da_cons de_str (da_cons (de_tup (da_cons de_str (da_cons de_str (da_cons (dv 12) da_nil)))) da_nil)))) da_nil))))))) (dw_and1 (dt_cmp (od_eq B.units) (dv 5) (de_fget (hu65 B.room) (dv 6) de_str) rfl))))) (dss_one (ds_ret de_bl)) dss_nil)
    (dss_cons (ds_if (PW.pt (dw_and (dt_val (dv 20)) (dw_and1 (dt_not (dt_val (de_ca (d_known_after Z) (B.mono (by omega)) rfl (da_cons (dv 1) (da_cons (dv 6) (da_cons (dv 8) (da_cons (de_tup (da_cons de_str (da_cons de_str (da_cons (dv 12) da_nil)))) da_nil)))))))))) (dss_one (ds_ret de_bl)) dss_nil)
    (dss_cons (ds_for (passes_of rfl) rfl (di_lst (de_lst (da_cons de_str (da_cons de_str da_nil)))) (dg_name 22 nd__law_holds) (dss_one (ds_if (dt_cmp od_isnB (de_ca (d_known_after Z) (B.mono (by omega)) rfl (da_cons (dv 1) (da_cons (dv 6) (da_cons (dv 8) (da_cons (de_tup (da_cons de_str (da_cons (dv 12) (da_cons (de_tup (da_cons de_str (da_cons (dv 22) (da_cons (dv 12) da_nil)))) da_nil)))) da_nil))))) de_bl rfl) (dss_one (ds_ret de_bl)) dss_nil)))
    (dss_cons (ds_if (dt_cmp (od_ne B.units) (de_isN (de_ca (d_doubt Z) (B.mono (by omega)) rfl (da_cons (dv 1) (da_cons (dv 6) (da_cons (dv 8) (da_cons de_str (da_cons (dv 12) da_nil))))))) (dv 20) rfl) (dss_one (ds_ret de_bl)) dss_nil)
    (dss_cons (ds_set 23 nd__law_holds (de_ca (d_beliefs Z) (B.mono (by omega)) rfl (da_cons (dv 1) (da_cons (de_cT oc_list rfl Z.f_list bb_list (da_cons (dv 5) da_nil)) (da_cons (dz 15) da_nil)))))
    (dss_cons (ds_if (dt_cmp (od_ninD (hu65 B.room)) (dv 14) (dv 23) rfl) (dss_one (ds_ret de_bl)) dss_nil)
    (dss_cons (ds_set 24 nd__law_holds (de_cmp (od_eq B.units) (de_lc rfl nd__law_holds (di_lst (dv 23)) (blkOk_by (own := [("values", 17)]) (N := N__law_holds) (sc := defScope st__law_holds) (by decide +kernel)) (fun _ _ _ _ _ => pg_name (i := 17) nd__law_holds rfl (Or.inr rfl)) (fun _ _ _ _ _ => (dts_one (dt_not (dt_val (de_ca (lvalues Z 3) (B.blk.mono (by omega)) rfl (da_cons (dv 12) (da_cons (de_cT (oc_dictP rfl) rfl Z.f_dict bb_dict (da_cons (de_lc rfl nd__law_holds (di_rng rfl Z.f_range (da_cons (de_cB oc_len rfl Z.f_len bb_len (da_cons (dv 10) da_nil)) da_nil)) (blkOk_in (blkOk_by (own := [("k", 9)]) (N := N__law_holds) (by decide +kernel))) (fun _ _ _ _ _ => pg_name (i := 9) nd__law_holds rfl (Or.inl rfl)) (fun _ _ _ _ _ => dts_nil) (fun _ _ _ _ _ => (de_tup (da_cons (de_ix (dv 10) (dv 9)) (da_cons (de_ix (dv 17) (dv 9)) da_nil))))) da_nil)) da_nil))))))) (fun _ _ _ _ _ => (dv 17))) (de_lst da_nil) rfl))
    (dss_one (ds_ret (de_cmp (od_eq B.units) (dv 24) (dv 20) rfl)))))))))))))))))))))))))))))) ?_, Z.g__law_holds, F.kp, hb⟩
  rintro ds S Q E hl ⟨a, o, rfl, ho, hdr, hq⟩
  rw [show startD N__law_holds [.ref a] = [some (.ref a), none, none, none, none, none, none, none, none, none, none, none, none, none, none, none, none, none, none, none, none, none, none, none, none] from rfl]
  clear hl
  refine seq_cut (fun ρ S1 => ∃ n : Net, n.ok ∧ n.ni ≤ 2 ∧ n.fs.length ≤ 3 ∧ ρ = [some (.ref a), some (n.d), none, none, none, none, none, none, none, none, none, none, none, none, none, none, none, none, none, none, none, none, none, none, none] ∧ Dw a S S1) (fun Rest hR => ?_) ?_
  · clear hq
    refine ⟨_, rfl, _, rfl, rfl, next_w (lim := 4) (Dw.init ho hdr) (by omega) (by omega) fun r1 S1 hr1 hd1 hk1 => ?_⟩
    have e1 : ∃ ni : Nat, 1 ≤ ni ∧ ni ≤ 2 ∧ (1 : Int) + (if r1 = 0 then 1 else 0) = (ni : Int) := by
      by_cases h : r1 = 0
      · exact ⟨2, by omega, by omega, by rw [if_pos h]; rfl⟩
      · exact ⟨1, by omega, by omega, by rw [if_neg h]; rfl⟩
    obtain ⟨ni, hn1, hn2, e1⟩ := e1
    clear ho hdr
    walk_at "nd"
    refine next_w (lim := 3) hd1 (by omega) (by omega) fun r2 S2 hr2 hd2 hk2 => ?_
    show m_design [.ref a, .int (ni : Nat), .int (1 + (r2 : Int)), .int 8] S2 _ E
    obtain ⟨o2, ho2, ha2⟩ := hd2.o
    refine ⟨a, o2, ni, 1 + r2, 8, rfl, ha2, ho2, by omega, by omega, by omega, by omega, by omega, by omega, fun o' fs sps es ho' hfs hsp hsl hel hel2 hes S3 hk3 ha3 => ?_⟩
    have hd3 : Dw a S S3 := ⟨⟨o', ho', ha3⟩, fun b u hb e => hk3 b u hb (hd2.k b u hb e)⟩
    refine next_w (lim := 2) hd3 (by omega) (by omega) fun r3 S4 hr3 hd4 hk4 => ?_
    rw [gEq_ii]
    show m_net [.tup [.int (ni : Nat), .lst (fs.map D.bl), .lst (sps.map Sp1.d), .lst (es.map endD)], .bl (decide ((r3 : Int) = 0))] S4 _ E
    refine ⟨ni, fs, sps, es, decide ((r3 : Int) = 0), rfl, by omega, by omega, by omega, by omega, by rw [hfs]; exact hsp, by omega, by omega, by omega, by rw [hfs]; exact hes, fun n S5 hsub hok hni hfs2 => ?_⟩
    exact hR _ _ ⟨n, hok, by omega, by rw [hfs2]; omega, rfl, hd4.sub hsub⟩
  rintro ρ S1 ⟨n, hn, hi2, hf3, rfl, hw⟩
  have hi1 := hn.i1
  have hf1 := hn.f1
  have ho2 := hn.o2
  have ho1 := hn.o1
  clear ho
  refine seq_cut (fun ρ S2 => ρ = [some (.ref a), some (n.d), some (nmD (List.range n.os.length)), none, none, none, none, none, none, none, none, none, none, none, none, none, none, none, none, none, none, none, none, none, none] ∧ S1 = S2) (fun Rest hR => ?_) ?_
  · have hR := hR _ _ ⟨rfl, rfl⟩
    clear hq
    rw [Net.d_eq] at hR ⊢
    refine ⟨_, rfl, _, rfl, ?_⟩
    show lcT [3, 4] _ _ _ ((ouN.zip n.os).map fun p => D.tup [.str p.1, nat p.2]) [] _ _
    refine lcT_m (fun p : Tx × Nat => D.str p.1) (fun p => [D.str p.1, nat p.2]) (fun _ => rfl) _ _ _ (fun p hp Q' q => ⟨_, rfl, q⟩) ?_ ?_
    · rw [List.length_zip]; show 0 + min 6 _ ≤ _; omega
    · have e : [] ++ (ouN.zip n.os).map (fun p => D.str p.1) = (List.range n.os.length).map fun p => D.str (ouT p) := by
        rw [List.nil_append, ← ou_rng ho2, ← zip_fst' ouN n.os, List.map_map]
        rfl
      rw [e]
      exact hR
  rintro ρ S2 ⟨rfl, rfl⟩
  refine seq_cut (fun ρ S2 => ∃ pa : List Nat, (∀ p ∈ pa, p < n.os.length) ∧ pa.length ≤ 3 ∧ ρ = [some (.ref a), some (n.d), some (nmD (List.range n.os.length)), none, none, some (nmD pa), none, none, none, none, none, none, none, none, none, none, none, none, none, none, none, none, none, none, none] ∧ Dw a S S2) (fun Rest hR => ?_) ?_
  · clear hq
    refine ⟨_, rfl, ?_⟩
    show lcR 3 _ _ _ ((List.range n.os.length).map fun p => D.str (ouT p)) [] _ _
    refine lcR_pick (Dw a S) (fun p => D.str (ouT p)) (List.range n.os.length) [] S1 _ (fun x hx S2 h2 Q' q => ?_) (fun x hx S2 Q' q => ⟨_, rfl, q⟩) (by rw [List.length_range]; show 0 + _ ≤ _; omega) hw fun sub S2 h1 h2 h3 => ?_
    · refine ⟨_, rfl, rfl, next_w (lim := 2) h2 (by omega) (by omega) fun r S3 hr hd hk => ?_⟩
      dsimp only [tdC]
      rw [gEq_ii]
      exact ⟨_, rfl, q _ _ hd⟩
    · rw [List.length_range] at h2
      exact hR _ _ ⟨sub, fun p hp => List.mem_range.mp (h1 p hp), by omega, rfl, h3⟩
  clear hw
  rintro ρ S2 ⟨pa, hpa, hpl, rfl, hw⟩
  refine seq_cut (fun ρ S3 => ∃ ex pb : List Nat, pb = pa ++ ex ∧ (∀ p ∈ pb, p < n.os.length) ∧ pb.length ≤ 6 ∧ ρ = [some (.ref a), some (n.d), some (nmD (List.range n.os.length)), none, none, some (nmD pa), some (obD pa pb), none, none, none, none, none, none, none, none, none, none, none, none, none, none, none, none, none, none] ∧ Dw a S S3) (fun Rest hR => ?_) ?_
  · clear hq
    refine ⟨_, rfl, _, rfl, _, rfl, ?_⟩
    show lcR 3 _ _ _ ((List.range n.os.length).map fun p => D.str (ouT p)) [] _ _
    refine lcR_pick (Dw a S) (fun p => D.str (ouT p)) (List.range n.os.length) [] S2 _ (fun x hx S3 h2 Q' q => ?_) (fun x hx S2 Q' q => ⟨_, rfl, q⟩) (by rw [List.length_range]; show 0 + _ ≤ _; omega) hw fun sub S3 h1 h2 h3 => ?_
    · refine ⟨_, rfl, _, rfl, ?_⟩
      show gIn not S3 (.str (ouT x)) (nmD pa) _
      rw [nmD_eq, gIn_ls]
      refine ⟨_, rfl, ?_⟩
      dsimp only
      split
      · refine ⟨_, rfl, rfl, next_w (lim := 2) h2 (by omega) (by omega) fun r S4 hr hd hk => ?_⟩
        dsimp only [tdC]
        rw [gEq_ii]
        exact ⟨_, rfl, q _ _ hd⟩
      · exact q _ _ h2
    · rw [List.length_range] at h2
      show (pa.map fun p => D.str (ouT p)).length + ([] ++ sub.map fun p => D.str (ouT p)).length ≤ sizeLine ∧ _
      have e : D.lst ((pa.map fun p => D.str (ouT p)) ++ ([] ++ sub.map fun p => D.str (ouT p))) = nmD (pa ++ sub) := by
        unfold nmD
        rw [List.nil_append, List.map_append]
      refine ⟨?_, ?_⟩
      · rw [List.nil_append, List.length_map, List.length_map]
        exact sz5 (by omega)
      · rw [e]
        refine ⟨_, _, rfl, by show [(.inr (tx "ann") : DK), .inr (tx "b_2")].Nodup; decide, show 2 ≤ 15 by decide, hR _ _ ⟨sub, pa ++ sub, rfl, fun p hp => ?_, ?_, rfl, h3⟩⟩
        · rcases List.mem_append.mp hp with z | z
          · exact hpa p z
          · exact List.mem_range.mp (h1 p z)
        · rw [List.length_append]; omega
  clear hw
  rintro ρ S3 ⟨ex, pb, hpb, hpb1, hpb2, rfl, hw⟩
  have hln := ins_len hn
  refine seq_cut (fun ρ S4 => ρ = [some (.ref a), some (n.d), some (nmD (List.range n.os.length)), none, none, some (nmD pa), some (obD pa pb), some (.lst ((rowsB n.ni).map rowD)), none, none, none, none, none, none, none, none, none, none, none, none, none, none, none, none, none] ∧ S3 = S4) (fun Rest hR => ?_) ?_
  · refine ⟨n.d, rfl, _, rfl, rfl, ?_⟩
    show m_law_all_rows [nat (n.ins.map D.str).length] _ _ _
    rw [hln]
    exact ⟨n.ni, rfl, by omega, hR _ _ ⟨rfl, rfl⟩⟩
  rintro ρ S4 ⟨rfl, rfl⟩
  refine seq_cut (fun ρ S4 => ∃ run : Run, run ∈ runsB n.ni run.length ∧ n.ni * run.length ≤ 4 ∧ ρ = [some (.ref a), some (n.d), some (nmD (List.range n.os.length)), none, none, some (nmD pa), some (obD pa pb), some (.lst ((rowsB n.ni).map rowD)), some (runD run), none, none, none, none, none, none, none, none, none, none, none, none, none, none, none, none] ∧ Dw a S S4) (fun Rest hR => ?_) ?_
  · clear hq
    refine ⟨_, rfl, n.d, rfl, _, rfl, ?_⟩
    dsimp only [tdNil, tdCons, tdC]
    rw [gLen_tup, hln, gEq_ii]
    refine ⟨_, rfl, ?_⟩
    have hrl : (rowsB n.ni).length ≤ 16 := rowsB_up (Nat.le_refl _) (by omega)
    have hrl0 : 0 < (rowsB n.ni).length := by rw [rowsB_len]; exact Nat.pow_pos (by decide)
    have rest : ∀ (r : Nat) (S5 : Store) (Q' : List D → Store → Prop), r ≤ 4 → Dw a S S5 → (∀ (run : Run) S6, run.length = r → (∀ i ∈ run, i ∈ rowsB n.ni) → Dw a S S6 → Q' (run.map rowD) S6) →
        lcR 9 tdYes (tdOp gIx (tdV 7) (tdCall m_law_next 2 noX (tdCons (tdV 0) (tdCons (tdCB gLen (tdCons (tdV 7) tdNil)) tdNil)))) [some (.ref a), some (n.d), some (nmD (List.range n.os.length)), none, none, some (nmD pa), some (obD pa pb), some (.lst ((rowsB n.ni).map rowD)), none, none, none, none, none, none, none, none, none, none, none, none, none, none, none, none, none] ((List.range' 0 r).map nat) [] S5 Q' := by
      intro r S5 Q' hr hd q
      refine lcR_drawn (Dw a S) nat rowD (fun i => i ∈ rowsB n.ni) (List.range' 0 r) [] S5 Q' (fun x hx S6 h6 Q2 q2 => ?_) (by rw [List.length_range']; show 0 + _ ≤ _; omega) hd fun ys S6 h1 h2 h3 => ?_
      · refine ⟨_, rfl, _, rfl, _, rfl, rfl, ?_⟩
        show m_law_next [.ref a, .int (((rowsB n.ni).map rowD).length : Nat)] S6 _ noX
        rw [List.length_map]
        refine next_w (lim := (rowsB n.ni).length) h6 hrl0 (by omega) fun j S7 hj hd7 hk7 => ?_
        refine ⟨rowD ((rowsB n.ni)[j]), ?_, q2 _ _ (List.getElem_mem hj) hd7⟩
        show atI ((rowsB n.ni).map rowD) ((j : Nat) : Int) = _
        rw [atIn, List.getElem?_map, List.getElem?_eq_getElem hj]
        rfl
      · rw [List.length_range'] at h2
        exact q ys S6 h2 h1 h3
    have fin : ∀ (r : Nat) (run : Run) (S6 : Store), n.ni * r ≤ 4 → run.length = r → (∀ i ∈ run, i ∈ rowsB n.ni) → Dw a S S6 → Rest [some (.ref a), some (n.d), some (nmD (List.range n.os.length)), none, none, some (nmD pa), some (obD pa pb), some (.lst ((rowsB n.ni).map rowD)), some (runD run), none, none, none, none, none, none, none, none, none, none, none, none, none, none, none, none] S6 := fun r run S6 h1 h2 h3 h4 =>
      hR _ _ ⟨run, (mem_runsB _ _ _).mpr ⟨rfl, fun i hi => (mem_rowsB _ _).mp (h3 i hi)⟩, by rw [h2]; exact h1, rfl, h4⟩
    clear hR
    split
    · rename_i hif
      have h1 : (n.ni : Int) = 1 := of_decide_eq_true hif
      have h1 : n.ni = 1 := by omega
      refine ⟨rfl, next_w (lim := 4) hw (by omega) (by omega) fun r S5 hr hd hk => ?_⟩
      refine ⟨by omega, by omega, ?_⟩
      rw [rng_nat]
      exact rest r S5 _ (by omega) hd fun run S6 g1 g2 g3 => gTuple_lst (fin r run S6 (by rw [h1]; omega) g1 g2 g3)
    · refine ⟨rfl, next_w (lim := 3) hw (by omega) (by omega) fun r S5 hr hd hk => ?_⟩
      refine ⟨by omega, by omega, ?_⟩
      rw [rng_nat]
      exact rest r S5 _ (by omega) hd fun run S6 g1 g2 g3 => gTuple_lst (fin r run S6 (by have := Nat.mul_le_mul hi2 (show r ≤ 2 by omega); omega) g1 g2 g3)
  clear hw
  rintro ρ S4 ⟨run, hrun, hrk, rfl, hw⟩
  refine seq_cut (fun ρ S5 => ρ = [some (.ref a), some (n.d), some (nmD (List.range n.os.length)), none, none, some (nmD pa), some (obD pa pb), some (.lst ((rowsB n.ni).map rowD)), some (runD run), none, some (.lst ((rgN.take n.fs.length).map D.str)), none, none, none, none, none, none, none, none, none, none, none, none, none, none] ∧ S4 = S5) (fun Rest hR => ?_) ?_
  · have hR := hR _ _ ⟨rfl, rfl⟩
    clear hq
    rw [Net.d_eq] at hR ⊢
    refine ⟨_, rfl, _, rfl, ?_⟩
    show lcT [3, 11] _ _ _ ((rgN.zip n.fs).map fun p => D.tup [.str p.1, .bl p.2]) [] _ _
    refine lcT_m (fun p : Tx × Bool => D.str p.1) (fun p => [D.str p.1, .bl p.2]) (fun _ => rfl) _ _ _ (fun p hp Q' q => ⟨_, rfl, q⟩) ?_ ?_
    · rw [List.length_zip]; show 0 + min 4 _ ≤ _; omega
    · have e : [] ++ (rgN.zip n.fs).map (fun p => D.str p.1) = (rgN.take n.fs.length).map D.str := by
        rw [List.nil_append, ← zip_fst' rgN n.fs, List.map_map]
        rfl
      rw [e]
      exact hR
  rintro ρ S5 ⟨rfl, rfl⟩
  refine seq_cut (fun ρ S5 => ∃ c1 : Cl, c1.plain ∧ c1.ok n.fs.length ∧ c1.dp ≤ 2 ∧ ρ = [some (.ref a), some (n.d), some (nmD (List.range n.os.length)), none, none, some (nmD pa), some (obD pa pb), some (.lst ((rowsB n.ni).map rowD)), some (runD run), none, some (.lst ((rgN.take n.fs.length).map D.str)), none, some (c1.d), none, none, none, none, none, none, none, none, none, none, none, none] ∧ Dw a S S5) (fun Rest hR => ?_) ?_
  · exact ⟨_, rfl, _, rfl, rfl, a, S, n.fs.length, 2, rfl, by omega, hf1, by omega, hw, fun c S' p1 p2 p3 p4 p5 => hR _ _ ⟨c, p1, p2, p3, rfl, p4⟩⟩
  clear hw
  rintro ρ S5 ⟨c1, hc1p, hc1o, hc1d, rfl, hw⟩
  refine seq_cut (fun ρ S6 => ∃ c2 : Cl, c2.plain ∧ c2.ok n.fs.length ∧ c2.dp ≤ 2 ∧ ρ = [some (.ref a), some (n.d), some (nmD (List.range n.os.length)), none, none, some (nmD pa), some (obD pa pb), some (.lst ((rowsB n.ni).map rowD)), some (runD run), none, some (.lst ((rgN.take n.fs.length).map D.str)), none, some (c1.d), some (c2.d), none, none, none, none, none, none, none, none, none, none, none] ∧ Dw a S S6) (fun Rest hR => ?_) ?_
  · exact ⟨_, rfl, _, rfl, rfl, a, S, n.fs.length, 2, rfl, by omega, hf1, by omega, hw, fun c S' p1 p2 p3 p4 p5 => hR _ _ ⟨c, p1, p2, p3, rfl, p4⟩⟩
  clear hw
  rintro ρ S6 ⟨c2, hc2p, hc2o, hc2d, rfl, hw⟩
  refine seq_cut (fun ρ S7 => ρ = [some (.ref a), some (n.d), some (nmD (List.range n.os.length)), none, none, some (nmD pa), some (obD pa pb), some (.lst ((rowsB n.ni).map rowD)), some (runD run), none, some (.lst ((rgN.take n.fs.length).map D.str)), none, some (c1.d), some (c2.d), some (rowD n.fs), none, none, none, none, none, none, none, none, none, none] ∧ S6 = S7) (fun Rest hR => ?_) ?_
  · exact ⟨_, rfl, rfl, n, rfl, hn, hR _ _ ⟨rfl, rfl⟩⟩
  rintro ρ S7 ⟨rfl, rfl⟩
  refine seq_cut (fun ρ S8 => ∃ lp, S6 lp = none ∧ ρ = [some (.ref a), some (n.d), some (nmD (List.range n.os.length)), none, none, some (nmD pa), some (obD pa pb), some (.lst ((rowsB n.ni).map rowD)), some (runD run), none, some (.lst ((rgN.take n.fs.length).map D.str)), none, some (c1.d), some (c2.d), some (rowD n.fs), some (.ref lp), none, none, none, none, none, none, none, none, none] ∧ S8 = sup S6 lp (.lst ((n.lk pa n.fs []).map rowD))) (fun Rest hR => ?_) ?_
  · exact ⟨Nat.zero_le _, fun lp hlp => hR _ _ ⟨lp, hlp, rfl, rfl⟩⟩
  rintro ρ S8 ⟨lp, hlp, rfl, rfl⟩
  obtain ⟨hlpa, hlp0⟩ := hw.ne hlp
  refine seq_cut (fun ρ S9 => ∃ x16 x17 : Option D, ρ = [some (.ref a), some (n.d), some (nmD (List.range n.os.length)), none, none, some (nmD pa), some (obD pa pb), some (.lst ((rowsB n.ni).map rowD)), some (runD run), none, some (.lst ((rgN.take n.fs.length).map D.str)), none, some (c1.d), some (c2.d), some (rowD (n.fin n.fs run)), some (.ref lp), x16, x17, none, none, none, none, none, none, none] ∧ S9 = sup S6 lp (.lst ((n.lk pa n.fs run).map rowD))) (fun Rest hR => ?_) ?_
  · clear hq
    refine ⟨_, rfl, ?_⟩
    show forR _ _ _ (run.map rowD) _ _
    refine for_ind (fun ds ρ S9 => ∃ (l q : Run) (x16 x17 : Option D), ds = l.map rowD ∧ q ++ l = run ∧ ρ = [some (.ref a), some (n.d), some (nmD (List.range n.os.length)), none, none, some (nmD pa), some (obD pa pb), some (.lst ((rowsB n.ni).map rowD)), some (runD run), none, some (.lst ((rgN.take n.fs.length).map D.str)), none, some (c1.d), some (c2.d), some (rowD (n.fin n.fs q)), some (.ref lp), x16, x17, none, none, none, none, none, none, none] ∧ S9 = sup S6 lp (.lst ((n.lk pa n.fs q).map rowD))) ?_ ?_ _ _ _ ⟨run, [], none, none, rfl, rfl, rfl, rfl⟩
    · rintro ρ S9 ⟨l, q, x16, x17, e1, e2, rfl, rfl⟩
      have : l = [] := by
        cases l with
        | nil => rfl
        | cons _ _ => cases e1
      subst this
      rw [List.append_nil] at e2
      subst e2
      exact hR _ _ ⟨x16, x17, rfl, rfl⟩
    rintro d ds ρ S9 W hW ⟨l, q, x16, x17, e1, e2, rfl, rfl⟩
    cases l with
    | nil => cases e1
    | cons i l =>
    injection e1 with e1 e5
    subst e1 e5
    clear hR
    have hil : i.length = n.ni := ((mem_runsB _ _ _).mp hrun).2 i (by rw [← e2]; exact List.mem_append_right _ List.mem_cons_self)
    have hql : q.length ≤ 12 := by
      have e8 := congrArg List.length e2
      rw [List.length_append] at e8
      have : run.length ≤ 4 := Nat.le_trans (Nat.le_mul_of_pos_left _ hi1) hrk
      omega
    have hst : (n.fin n.fs q).length = n.fs.length := fin_len n hn.n1 q n.fs rfl
    have hW := hW [some (.ref a), some (n.d), some (nmD (List.range n.os.length)), none, none, some (nmD pa), some (obD pa pb), some (.lst ((rowsB n.ni).map rowD)), some (runD run), none, some (.lst ((rgN.take n.fs.length).map D.str)), none, some (c1.d), some (c2.d), some (rowD (n.nxt (n.fin n.fs q) i)), some (.ref lp), some (rowD i), some (rowD (n.out (n.fin n.fs q) i)), none, none, none, none, none, none, none] _ ⟨l, q ++ [i], _, _, rfl, by rw [List.append_assoc]; exact e2, by rw [fin_snoc], rfl⟩
    rw [lk_snoc] at hW
    show tdSeq _ _ _ [some (.ref a), some (n.d), some (nmD (List.range n.os.length)), none, none, some (nmD pa), some (obD pa pb), some (.lst ((rowsB n.ni).map rowD)), some (runD run), none, some (.lst ((rgN.take n.fs.length).map D.str)), none, some (c1.d), some (c2.d), some (rowD (n.fin n.fs q)), some (.ref lp), some (rowD i), x17, none, none, none, none, none, none, none] _
    refine seq_cut (fun ρ S9 => ρ = [some (.ref a), some (n.d), some (nmD (List.range n.os.length)), none, none, some (nmD pa), some (obD pa pb), some (.lst ((rowsB n.ni).map rowD)), some (runD run), none, some (.lst ((rgN.take n.fs.length).map D.str)), none, some (c1.d), some (c2.d), some (rowD (n.nxt (n.fin n.fs q) i)), some (.ref lp), some (rowD i), some (rowD (n.out (n.fin n.fs q) i)), none, none, none, none, none, none, none] ∧ S9 = sup S6 lp (.lst ((n.lk pa n.fs q).map rowD))) (fun Rest2 hR => ?_) ?_
    · exact ⟨_, rfl, _, rfl, _, rfl, rfl, n, n.fin n.fs q, i, rfl, hn, hst, hil, _, rfl, rfl, _, _, rfl, _, _, rfl, rfl, hR _ _ ⟨rfl, rfl⟩⟩
    rintro ρ S9 ⟨rfl, rfl⟩
    refine ⟨.ref lp, rfl, ⟨_, _, rfl, sup_same⟩, _, rfl, ?_⟩
    show lcR 3 _ _ _ (pa.map fun p => D.str (ouT p)) [] _ _
    refine lcR_map (fun p => D.str (ouT p)) (fun p => D.bl ((n.out (n.fin n.fs q) i).getD p false)) pa [] _ (fun p hp Q' q' => ?_) (by show 0 + _ ≤ _; omega) ?_
    · have hx : vw (sup S6 lp (.lst ((n.lk pa n.fs q).map rowD))) (nmD (List.range n.os.length)) = .lst ((ouN.take n.os.length).map D.str) := by
        rw [ou_rng ho2]
        rfl
      obtain ⟨ds, j, z, e1, e2, e3, e4, e5, e6, e7, e8, hj⟩ := idx_ou ho2 (hpa p hp) hx (Q := fun j => j = p) rfl
      subst hj
      refine ⟨_, rfl, _, rfl, ⟨_, rfl⟩, _, rfl, ds, j, z, e1, e2, e3, e4, e5, e6, e7, e8, .bl ((n.out (n.fin n.fs q) i).getD j false), ?_, q'⟩
      show atI (bD (n.out (n.fin n.fs q) i)) ((j : Nat) : Int) = _
      rw [atIn]
      unfold bD
      rw [List.getElem?_map, List.getD_eq_getElem?_getD, List.getElem?_eq_getElem (show j < (n.out (n.fin n.fs q) i).length by rw [out_len]; exact hpa j hp)]
      rfl
    · have e : [] ++ pa.map (fun p => D.bl ((n.out (n.fin n.fs q) i).getD p false)) = bD (n.lo pa (n.fin n.fs q) i) := by
        unfold bD Net.lo
        rw [List.nil_append, List.map_map]
        rfl
      rw [e]
      dsimp only [tdNil, tdCons]
      refine gTuple_lst ⟨lp, _, rfl, sup_same, ?_, ?_⟩
      · rw [List.length_map, lk_len]
        exact Nat.lt_of_lt_of_le (show q.length < 13 by omega) (sz5 (by decide))
      · rw [sup_sup]
        rw [List.map_append] at hW
        exact hW
  rintro ρ S9 ⟨x16, x17, rfl, rfl⟩
  have hstr : (n.fin n.fs run).length = n.fs.length := fin_len n hn.n1 run n.fs rfl
  have hw8 := hw.put hlpa hlp0 (o := .lst ((n.lk pa n.fs run).map rowD))
  have hl8 : sup S6 lp (.lst ((n.lk pa n.fs run).map rowD)) lp = some (.lst ((n.lk pa n.fs run).map rowD)) := sup_same
  clear hw
  generalize sup S6 lp (.lst ((n.lk pa n.fs run).map rowD)) = S8 at *
  have hregl : ((rgN.take n.fs.length).map D.str).length = n.fs.length := by
    rw [List.length_map, List.length_take]
    show min _ 4 = _
    omega
  refine seq_cut (fun ρ S9 => ρ = [some (.ref a), some (n.d), some (nmD (List.range n.os.length)), none, none, some (nmD pa), some (obD pa pb), some (.lst ((rowsB n.ni).map rowD)), some (runD run), none, some (.lst ((rgN.take n.fs.length).map D.str)), none, some (c1.d), some (c2.d), some (rowD (n.fin n.fs run)), some (.ref lp), x16, x17, some (.bl (c1.ev (n.fin n.fs run))), none, none, none, none, none, none] ∧ Dw a S S9 ∧ S9 lp = some (.lst ((n.lk pa n.fs run).map rowD))) (fun Rest hR => ?_) ?_
  · refine ⟨_, rfl, _, rfl, ?_⟩
    dsimp only [tdNil, tdCons]
    rw [gLen_lst, hregl]
    refine ⟨by omega, by omega, ?_⟩
    rw [rng_nat]
    refine dict_go (i := 14) (s := n.fin n.fs run) (by decide) rfl rfl (show 9 < 25 by decide) hstr (by omega) ?_
    refine ⟨_, prs_ok hstr (by omega), fun p hp => ⟨rfl, c1, p, _, n.fs.length, n.fin n.fs run, rfl, sup_same, kv_ok hstr (by omega), hc1p, hc1o, by omega, ?_⟩⟩
    exact hR _ _ ⟨rfl, hw8.sub (Sub.new hp), Sub.new hp _ _ hl8⟩
  clear hw8 hl8
  rintro ρ T ⟨rfl, hw, hlpT⟩
  refine seq_cut (fun ρ S9 => ρ = [some (.ref a), some (n.d), some (nmD (List.range n.os.length)), none, none, some (nmD pa), some (obD pa pb), some (.lst ((rowsB n.ni).map rowD)), some (runD run), none, some (.lst ((rgN.take n.fs.length).map D.str)), none, some (c1.d), some (c2.d), some (rowD (n.fin n.fs run)), some (.ref lp), x16, x17, some (.bl (c1.ev (n.fin n.fs run))), some ((Cl.knows false c1).d), none, none, none, none, none] ∧ T = S9) (fun Rest hR => ?_) ?_
  · exact ⟨_, rfl, sz5 (show 3 ≤ 1000000 by decide), hR _ _ ⟨rfl, rfl⟩⟩
  rintro ρ T ⟨rfl, rfl⟩
  -- what is asked
  have ask : ∀ c : Cl, c.ok n.fs.length → c.dp < 6 → Ask n pa pb run c := fun c h1 h2 => ask_of hn hpa hpb1 hpl hpb2 hrun hrk h1 h2
  obtain ⟨RS, hRS⟩ : ∃ RS, RS = runsB n.ni run.length := ⟨_, rfl⟩
  have call : ∀ (c : Cl) (Q' : D → Store → Prop) (E' : XD), c.ok n.fs.length → c.dp < 6 → Q' (.bl (decide (run ∈ whR n pa pb c RS))) T → m_known [n.d, obD pa pb, runD run, c.d] T Q' E' := fun c Q' E' h1 h2 q => ⟨n, pa, pb, run, c, rfl, ask c h1 h2, by rw [hRS] at q; exact q⟩
  have hrS : run ∈ RS := by rw [hRS]; exact hrun
  have s3 : 3 ≤ sizeLine := sz5 (by decide)
  have s1 : 1 ≤ sizeLine := sz5 (by decide)
  obtain ⟨kb, hkb⟩ : ∃ kb, kb = decide (run ∈ whR n pa pb (.knows false c1) RS) := ⟨_, rfl⟩
  have hKw : kb = true ↔ Kw (n.fin n.fs) (sees n pa pb) false c1 RS run := by rw [hkb, decide_eq_true_eq]; exact wh_Kw hc1p hrS
  have hd1 : (Cl.knows false c1).dp < 6 := by show c1.dp + 1 < 6; omega
  refine seq_cut (fun ρ S9 => ρ = [some (.ref a), some (n.d), some (nmD (List.range n.os.length)), none, none, some (nmD pa), some (obD pa pb), some (.lst ((rowsB n.ni).map rowD)), some (runD run), none, some (.lst ((rgN.take n.fs.length).map D.str)), none, some (c1.d), some (c2.d), some (rowD (n.fin n.fs run)), some (.ref lp), x16, x17, some (.bl (c1.ev (n.fin n.fs run))), some ((Cl.knows false c1).d), some (.bl kb), none, none, none, none] ∧ T = S9) (fun Rest hR => ?_) ?_
  · refine ⟨_, rfl, _, rfl, _, rfl, _, rfl, rfl, call _ _ _ hc1o hd1 ?_⟩
    rw [← hkb]
    exact hR _ _ ⟨rfl, rfl⟩
  rintro ρ T ⟨rfl, rfl⟩
  have hso : decide (run ∈ whR n pa pb c1 RS) = c1.ev (n.fin n.fs run) := bool_iff (by rw [decide_eq_true_eq, wh_plain c1 RS run hc1p]; exact ⟨fun h => h.2, fun h => ⟨hrS, h⟩⟩)
  refine seq_cut (fun ρ S9 => ρ = [some (.ref a), some (n.d), some (nmD (List.range n.os.length)), none, none, some (nmD pa), some (obD pa pb), some (.lst ((rowsB n.ni).map rowD)), some (runD run), none, some (.lst ((rgN.take n.fs.length).map D.str)), none, some (c1.d), some (c2.d), some (rowD (n.fin n.fs run)), some (.ref lp), x16, x17, some (.bl (c1.ev (n.fin n.fs run))), some ((Cl.knows false c1).d), some (.bl kb), none, none, none, none] ∧ T = S9) (fun Rest hR => ?_) ?_
  · refine ifS_cut false (fun Q' q => ?_) (fun h => by cases h) (fun _ => hR _ _ ⟨rfl, rfl⟩)
    have e2 : (kb && !c1.ev (n.fin n.fs run)) = false := by
      cases hk : kb with
      | false => rfl
      | true => rw [k_so hrS (hKw.mp hk)]; rfl
    refine or_go (b1 := false) (b2 := kb && !c1.ev (n.fin n.fs run)) (fun Q2 q2 => ?_) (fun Q2 q2 => ?_) (by rw [e2]; exact q)
    · refine ⟨_, rfl, _, rfl, _, rfl, _, rfl, rfl, call _ _ _ hc1o (by omega) ⟨_, rfl, ?_⟩⟩
      dsimp only
      rw [gEq_bb, hso, decide_eq_true rfl]
      exact ⟨_, rfl, q2⟩
    · exact and_go (b1 := kb) (b2 := !c1.ev (n.fin n.fs run)) (fun Q3 q3 => ⟨_, rfl, _, rfl, q3⟩) (fun Q3 q3 => ⟨_, rfl, _, rfl, q3⟩) q2
  rintro ρ T ⟨rfl, rfl⟩
  obtain ⟨k2, hk2⟩ : ∃ k2, k2 = decide (run ∈ whR n pa pb (.knows false (.two .and c1 c2)) RS) := ⟨_, rfl⟩
  refine seq_cut (fun ρ S9 => ρ = [some (.ref a), some (n.d), some (nmD (List.range n.os.length)), none, none, some (nmD pa), some (obD pa pb), some (.lst ((rowsB n.ni).map rowD)), some (runD run), none, some (.lst ((rgN.take n.fs.length).map D.str)), none, some (c1.d), some (c2.d), some (rowD (n.fin n.fs run)), some (.ref lp), x16, x17, some (.bl (c1.ev (n.fin n.fs run))), some ((Cl.knows false c1).d), some (.bl kb), some (.bl k2), none, none, none] ∧ T = S9) (fun Rest hR => ?_) ?_
  · refine ⟨_, rfl, _, rfl, _, rfl, _, rfl, _, rfl, s3, s3, rfl, call (.knows false (.two .and c1 c2)) _ _ ⟨hc1o, hc2o⟩ (by show max c1.dp c2.dp + 1 + 1 < 6; omega) ?_⟩
    rw [← hk2]
    exact hR _ _ ⟨rfl, rfl⟩
  rintro ρ T ⟨rfl, rfl⟩
  refine seq_cut (fun ρ S9 => ρ = [some (.ref a), some (n.d), some (nmD (List.range n.os.length)), none, none, some (nmD pa), some (obD pa pb), some (.lst ((rowsB n.ni).map rowD)), some (runD run), none, some (.lst ((rgN.take n.fs.length).map D.str)), none, some (c1.d), some (c2.d), some (rowD (n.fin n.fs run)), some (.ref lp), x16, x17, some (.bl (c1.ev (n.fin n.fs run))), some ((Cl.knows false c1).d), some (.bl kb), some (.bl k2), none, none, none] ∧ T = S9) (fun Rest hR => ?_) ?_
  · refine ifS_cut false (fun Q' q => ?_) (fun h => by cases h) (fun _ => hR _ _ ⟨rfl, rfl⟩)
    obtain ⟨ko, hko⟩ : ∃ ko, ko = decide (run ∈ whR n pa pb (.knows false c2) RS) := ⟨_, rfl⟩
    have hKo : ko = true ↔ Kw (n.fin n.fs) (sees n pa pb) false c2 RS run := by rw [hko, decide_eq_true_eq]; exact wh_Kw hc2p hrS
    have e2 : k2 = (kb && ko) := bool_iff (by rw [hk2, decide_eq_true_eq, k_both hc1p hc2p hrS, Bool.and_eq_true, hKw, hKo])
    have fin : ∀ S' : Store, S' = T → gEq not S' (.bl k2) (.bl (kb && ko)) fun d S' => ∃ k, d = .bl k ∧ Q' k S' := fun S' e => by
      subst e
      rw [gEq_bb, e2, decide_eq_true rfl]
      exact ⟨_, rfl, q⟩
    refine ⟨_, rfl, _, rfl, _, rfl, ?_⟩
    cases hk : kb with
    | false =>
      rw [hk, Bool.false_and] at fin
      exact iteF (fin T rfl)
    | true =>
      rw [hk, Bool.true_and] at fin
      refine iteT ⟨_, rfl, _, rfl, _, rfl, _, rfl, s3, rfl, call (.knows false c2) _ _ hc2o (by show c2.dp + 1 < 6; omega) ?_⟩
      rw [← hko]
      exact fin T rfl
  rintro ρ T ⟨rfl, rfl⟩
  refine seq_cut (fun ρ S9 => ρ = [some (.ref a), some (n.d), some (nmD (List.range n.os.length)), none, none, some (nmD pa), some (obD pa pb), some (.lst ((rowsB n.ni).map rowD)), some (runD run), none, some (.lst ((rgN.take n.fs.length).map D.str)), none, some (c1.d), some (c2.d), some (rowD (n.fin n.fs run)), some (.ref lp), x16, x17, some (.bl (c1.ev (n.fin n.fs run))), some ((Cl.knows false c1).d), some (.bl kb), some (.bl k2), none, none, none] ∧ T = S9) (fun Rest hR => ?_) ?_
  · refine ifS_cut false (fun Q' q => ?_) (fun h => by cases h) (fun _ => hR _ _ ⟨rfl, rfl⟩)
    have e1 : decide (run ∈ whR n pa pb (.knows false (.knows false c1)) RS) = kb := bool_iff (by rw [decide_eq_true_eq, k_k hc1p hrS, hKw])
    have e2 : decide (run ∈ whR n pa pb (.knows false (.two .imp (.knows false c1) .non)) RS) = !kb := bool_iff (by
      rw [decide_eq_true_eq, k_n hc1p hrS, ← hKw]
      cases kb <;> simp)
    refine or_go (b1 := false) (b2 := false) (fun Q2 q2 => ?_) (fun Q2 q2 => ?_) q
    · refine ⟨_, rfl, _, rfl, _, rfl, _, rfl, s3, rfl, call (.knows false (.knows false c1)) _ _ hc1o (by show c1.dp + 1 + 1 < 6; omega) ⟨_, rfl, ?_⟩⟩
      rw [e1]
      dsimp only
      rw [gEq_bb, decide_eq_true rfl]
      exact ⟨_, rfl, q2⟩
    · refine ⟨_, rfl, _, rfl, _, rfl, _, rfl, s1, s3, s3, rfl, call (.knows false (.two .imp (.knows false c1) .non)) _ _ ⟨hc1o, trivial⟩ (by show max (c1.dp + 1) 0 + 1 + 1 < 6; omega) ⟨_, rfl, ?_⟩⟩
      rw [e2]
      dsimp only
      rw [gEq_bb]
      refine ⟨_, rfl, ?_⟩
      have e3 : id (decide ((!kb) = kb)) = false := by cases kb <;> rfl
      rw [e3]
      exact q2
  rintro ρ T ⟨rfl, rfl⟩
  refine seq_cut (fun ρ S9 => ρ = [some (.ref a), some (n.d), some (nmD (List.range n.os.length)), none, none, some (nmD pa), some (obD pa pb), some (.lst ((rowsB n.ni).map rowD)), some (runD run), none, some (.lst ((rgN.take n.fs.length).map D.str)), none, some (c1.d), some (c2.d), some (rowD (n.fin n.fs run)), some (.ref lp), x16, x17, some (.bl (c1.ev (n.fin n.fs run))), some ((Cl.knows false c1).d), some (.bl kb), some (.bl k2), none, none, none] ∧ T = S9) (fun Rest hR => ?_) ?_
  · refine ifS_cut false (fun Q' q => ?_) (fun h => by cases h) (fun _ => hR _ _ ⟨rfl, rfl⟩)
    obtain ⟨kc, hkc⟩ : ∃ kc, kc = decide (run ∈ whR n pa pb (.knows true (.knows false c1)) RS) := ⟨_, rfl⟩
    have hpa3 : ∀ p ∈ pa, p < 3 := fun p hp => Nat.lt_of_lt_of_le (hpa p hp) ho2
    have hpb3 : ∀ p ∈ pb, p < 3 := fun p hp => Nat.lt_of_lt_of_le (hpb1 p hp) ho2
    have e0 : (kb && (!kc && decide (pa = pb))) = false := by
      cases hk : kb with
      | false => rfl
      | true =>
        by_cases hab : pa = pb
        · have : kc = true := by
            rw [hkc, decide_eq_true_eq]
            refine k_bk hc1p ?_ hrS (hKw.mp hk)
            rw [hab]
            rfl
          rw [this]; rfl
        · rw [decide_eq_false hab, Bool.and_false]; rfl
    refine and_go (b1 := kb) (b2 := !kc && decide (pa = pb)) (fun Q2 q2 => ⟨_, rfl, _, rfl, q2⟩) (fun Q2 q2 => ?_) (by rw [e0]; exact q)
    refine and_go (b1 := !kc) (b2 := decide (pa = pb)) (fun Q3 q3 => ?_) (fun Q3 q3 => ?_) q2
    · refine ⟨_, rfl, _, rfl, _, rfl, _, rfl, s3, s3, rfl, call (.knows true (.knows false c1)) _ _ hc1o (by show c1.dp + 1 + 1 < 6; omega) ⟨_, rfl, ?_⟩⟩
      rw [← hkc]
      exact q3
    · refine ⟨_, rfl, _, rfl, _, _, .inr (whoT true), nmD pb, rfl, rfl, rfl, ?_⟩
      dsimp only
      exact eq_nm hpa3 hpb3 ⟨_, rfl, q3⟩
  rintro ρ T ⟨rfl, rfl⟩
  have hmore : ∀ q r : Run, sees n pa pb true q = sees n pa pb true r → sees n pa pb false q = sees n pa pb false r := fun q r e => by
    have e : n.lk pb n.fs q = n.lk pb n.fs r := e
    rw [hpb] at e
    exact lk_more n pa ex q r _ _ e
  refine seq_cut (fun ρ S9 => ρ = [some (.ref a), some (n.d), some (nmD (List.range n.os.length)), none, none, some (nmD pa), some (obD pa pb), some (.lst ((rowsB n.ni).map rowD)), some (runD run), none, some (.lst ((rgN.take n.fs.length).map D.str)), none, some (c1.d), some (c2.d), some (rowD (n.fin n.fs run)), some (.ref lp), x16, x17, some (.bl (c1.ev (n.fin n.fs run))), some ((Cl.knows false c1).d), some (.bl kb), some (.bl k2), none, none, none] ∧ T = S9) (fun Rest hR => ?_) ?_
  · refine ifS_cut false (fun Q' q => ?_) (fun h => by cases h) (fun _ => hR _ _ ⟨rfl, rfl⟩)
    obtain ⟨kc, hkc⟩ : ∃ kc, kc = decide (run ∈ whR n pa pb (.knows true c1) RS) := ⟨_, rfl⟩
    have e0 : (kb && !kc) = false := by
      cases hk : kb with
      | false => rfl
      | true =>
        have : kc = true := by
          rw [hkc, decide_eq_true_eq]
          exact (wh_Kw hc1p hrS).mpr (k_more hmore (hKw.mp hk))
        rw [this]; rfl
    refine and_go (b1 := kb) (b2 := !kc) (fun Q2 q2 => ⟨_, rfl, _, rfl, q2⟩) (fun Q2 q2 => ?_) (by rw [e0]; exact q)
    refine ⟨_, rfl, _, rfl, _, rfl, _, rfl, s3, rfl, call (.knows true c1) _ _ hc1o (by show c1.dp + 1 < 6; omega) ⟨_, rfl, ?_⟩⟩
    rw [← hkc]
    exact q2
  rintro ρ T ⟨rfl, rfl⟩
  have told : ∀ w0 : Bool, decide (run ∈ whR n pa pb (.told c1 (.knows w0 c1)) RS) = true := fun w0 => decide_eq_true (k_told hc1p hrS)
  refine seq_cut (fun ρ S9 => ρ = [some (.ref a), some (n.d), some (nmD (List.range n.os.length)), none, none, some (nmD pa), some (obD pa pb), some (.lst ((rowsB n.ni).map rowD)), some (runD run), none, some (.lst ((rgN.take n.fs.length).map D.str)), none, some (c1.d), some (c2.d), some (rowD (n.fin n.fs run)), some (.ref lp), x16, x17, some (.bl (c1.ev (n.fin n.fs run))), some ((Cl.knows false c1).d), some (.bl kb), some (.bl k2), some (.str (whoT true)), none, none] ∧ T = S9) (fun Rest hR => ?_) ?_
  · have hR := hR _ _ ⟨rfl, rfl⟩
    refine ⟨sz5 (show 2 ≤ 1000000 by decide), ?_⟩
    show forR _ _ _ [.str (whoT false), .str (whoT true)] _ _
    unfold forR
    refine ifS_cut false (fun Q' q => ?_) (fun h => by cases h) (fun _ => ?_)
    · refine ⟨_, rfl, _, rfl, _, rfl, _, rfl, _, rfl, _, rfl, s3, s3, rfl, call (.told c1 (.knows false c1)) _ _ ⟨hc1o, hc1o⟩ (by show max c1.dp (c1.dp + 1) + 1 < 6; omega) ?_⟩
      rw [told]
      exact ⟨_, _, rfl, rfl, _, rfl, q⟩
    dsimp only [tdNext]
    unfold forR
    refine ifS_cut false (fun Q' q => ?_) (fun h => by cases h) (fun _ => ?_)
    · refine ⟨_, rfl, _, rfl, _, rfl, _, rfl, _, rfl, _, rfl, s3, s3, rfl, call (.told c1 (.knows true c1)) _ _ ⟨hc1o, hc1o⟩ (by show max c1.dp (c1.dp + 1) + 1 < 6; omega) ?_⟩
      rw [told]
      exact ⟨_, _, rfl, rfl, _, rfl, q⟩
    dsimp only [tdNext]
    unfold forR
    exact hR
  rintro ρ T ⟨rfl, rfl⟩
  refine seq_cut (fun ρ S9 => ρ = [some (.ref a), some (n.d), some (nmD (List.range n.os.length)), none, none, some (nmD pa), some (obD pa pb), some (.lst ((rowsB n.ni).map rowD)), some (runD run), none, some (.lst ((rgN.take n.fs.length).map D.str)), none, some (c1.d), some (c2.d), some (rowD (n.fin n.fs run)), some (.ref lp), x16, x17, some (.bl (c1.ev (n.fin n.fs run))), some ((Cl.knows false c1).d), some (.bl kb), some (.bl k2), some (.str (whoT true)), none, none] ∧ T = S9) (fun Rest hR => ?_) ?_
  · refine ifS_cut false (fun Q' q => ?_) (fun h => by cases h) (fun _ => hR _ _ ⟨rfl, rfl⟩)
    have e2 : DL.isNon (optD (dbt n pa pb run false c1)) = kb := by
      unfold dbt
      rw [← hRS]
      refine bool_iff ?_
      rw [hKw]
      cases hf : RS.find? fun r => decide (sees n pa pb false r = sees n pa pb false run) && !decide (r ∈ whR n pa pb c1 RS) with
      | none =>
        refine ⟨fun _ q hq e => ?_, fun _ => rfl⟩
        have h9 := List.find?_eq_none.mp hf q hq
        refine ((wh_plain (val := n.fin n.fs) (look := sees n pa pb) c1 RS q hc1p).mp ?_).2
        refine Decidable.byContradiction fun hn9 => h9 ?_
        rw [decide_eq_true e, decide_eq_false hn9]
        rfl
      | some r =>
        have h8 := List.mem_of_find?_eq_some hf
        have h9 := List.find?_some hf
        refine ⟨fun h => (nomatch h), fun h => ?_⟩
        rw [Bool.and_eq_true, decide_eq_true_eq, ndec_iff] at h9
        exact absurd ((wh_plain c1 RS r hc1p).mpr ⟨h8, h r h8 h9.1⟩) h9.2
    refine ⟨_, rfl, _, rfl, _, rfl, _, rfl, rfl, n, pa, pb, run, false, c1, rfl, ask c1 hc1o (by omega), ?_⟩
    dsimp only
    rw [e2]
    refine ⟨_, rfl, ?_⟩
    dsimp only
    rw [gEq_bb, decide_eq_true rfl]
    exact ⟨_, rfl, q⟩
  rintro ρ T ⟨rfl, rfl⟩
  have hwd := hw.del hlpa hlp0
  refine seq_cut (fun ρ S9 => ∃ ss : Run, Bel n pa (n.lk pa n.fs run) ss ∧ ss.length ≤ 4096 ∧ (∀ s ∈ ss, s.length = n.fs.length) ∧ ρ = [some (.ref a), some (n.d), some (nmD (List.range n.os.length)), none, none, some (nmD pa), some (obD pa pb), some (.lst ((rowsB n.ni).map rowD)), some (runD run), none, some (.lst ((rgN.take n.fs.length).map D.str)), none, some (c1.d), some (c2.d), some (rowD (n.fin n.fs run)), some (.ref lp), x16, x17, some (.bl (c1.ev (n.fin n.fs run))), some ((Cl.knows false c1).d), some (.bl kb), some (.bl k2), some (.str (whoT true)), some (.lst (ss.map rowD)), none] ∧ sdel T lp = S9) (fun Rest hR => ?_) ?_
  · refine ⟨_, rfl, _, rfl, lp, _, rfl, hlpT, rfl, n, pa, n.lk pa n.fs run, rfl, hn, hpa, by omega, by rw [lk_len]; omega, fun ss h1 h2 h3 => hR _ _ ⟨ss, h1, h2, h3, rfl, rfl⟩⟩
  clear hw hlpT call
  rintro ρ S9 ⟨ss, hb1, hb2, hb3, rfl, rfl⟩
  generalize sdel T lp = T at *
  refine seq_cut (fun ρ S9 => ρ = [some (.ref a), some (n.d), some (nmD (List.range n.os.length)), none, none, some (nmD pa), some (obD pa pb), some (.lst ((rowsB n.ni).map rowD)), some (runD run), none, some (.lst ((rgN.take n.fs.length).map D.str)), none, some (c1.d), some (c2.d), some (rowD (n.fin n.fs run)), some (.ref lp), x16, x17, some (.bl (c1.ev (n.fin n.fs run))), some ((Cl.knows false c1).d), some (.bl kb), some (.bl k2), some (.str (whoT true)), some (.lst (ss.map rowD)), none] ∧ T = S9) (fun Rest hR => ?_) ?_
  · refine ifS_cut false (fun Q' q => ?_) (fun h => by cases h) (fun _ => hR _ _ ⟨rfl, rfl⟩)
    refine ⟨_, rfl, _, rfl, ?_⟩
    dsimp only
    refine inD_row ?_
    rw [decide_eq_true (bel_now hb1 ((mem_runsB _ _ _).mp hrun).2)]
    exact ⟨_, rfl, q⟩
  rintro ρ T ⟨rfl, rfl⟩
  refine seq_cut (fun ρ S9 => ρ = [some (.ref a), some (n.d), some (nmD (List.range n.os.length)), none, none, some (nmD pa), some (obD pa pb), some (.lst ((rowsB n.ni).map rowD)), some (runD run), none, some (.lst ((rgN.take n.fs.length).map D.str)), none, some (c1.d), some (c2.d), some (rowD (n.fin n.fs run)), some (.ref lp), x16, x17, some (.bl (c1.ev (n.fin n.fs run))), some ((Cl.knows false c1).d), some (.bl kb), some (.bl k2), some (.str (whoT true)), some (.lst (ss.map rowD)), some (.bl (ss.filter fun s => !c1.ev s).isEmpty)] ∧ Sub T S9) (fun Rest hR => ?_) ?_
  · clear hq
    refine ⟨_, rfl, ?_⟩
    show lcR 17 _ _ _ (ss.map rowD) [] T _
    refine lcR_filS T rowD (fun s => !c1.ev s) ss [] T _ (fun s hs S' hS Q' q => ?_) (fun s hs S' Q' q => ⟨_, rfl, q⟩) (by show 0 + _ ≤ _; omega) (Sub.refl T) (fun S' hS => ⟨Nat.zero_le _, ?_⟩)
    · refine ⟨_, rfl, _, rfl, ?_⟩
      dsimp only [tdNil, tdCons]
      rw [gLen_lst, hregl]
      refine ⟨by omega, by omega, ?_⟩
      rw [rng_nat]
      refine dict_go (i := 17) (s := s) (by decide) rfl rfl (show 9 < 25 by decide) (hb3 s hs) (by omega) ?_
      exact ⟨_, prs_ok (hb3 s hs) (by omega), fun p hp => ⟨rfl, c1, p, _, n.fs.length, s, rfl, sup_same, kv_ok (hb3 s hs) (by omega), hc1p, hc1o, by omega, _, rfl, q _ (Sub.tr hS (Sub.new hp))⟩⟩
    · rw [List.nil_append]
      exact eq_nil (hR _ _ ⟨rfl, hS⟩)
  rintro ρ S9 ⟨rfl, hS⟩
  have hend : (ss.filter fun s => !c1.ev s).isEmpty = kb := bool_iff (by rw [List.isEmpty_iff, bel_all (qs := pb) hb1, ← hRS, hKw])
  refine ⟨_, rfl, _, rfl, ?_⟩
  dsimp only
  rw [gEq_bb, hend, decide_eq_true rfl]
  exact fini (hq S9 fun b u hb e => hS b u (hwd.k b u hb e))
end K06
namespace K06
open PySem PySem.Spec L2 DL
local macro_rules | `(tactic| walk_at "nd") => `(tactic| simp only [icO, isN0, gCatB, gEq_bb, tdLcB, tdDNew, tdNNew, tdNGet, tdNPut, tdFGet, tdiF, tdDctF, tdDc, tdDcN, tdTru, tdDAugG, tdDictZ, tdCallV, tdLc2, ln_4, ln_5, ln_6, fmod_2, fdiv_2, gAddT, tdIdx, gdUnl, tdiD, gSortI, gMin2, gMax2, gTuple, gDictP, tdLcT, lcT, setD, unsetD, tdKGet, tdKGet2, tdGet2, tdPop, tdSeq, tdAsg, tdV, gdName, tdAnd, tdOr, tdNot, tdB, tdOp, tdCB, tdCons, tdNil, tdC, tdAug, tdSl, tdP, tdRet, tdTup, tdIf, tdIfS, gOrd, gI0, gI, gLen, gIx, gAdd, gInt, vw, ixP, gSl, tdDrop, tdRetN, tdNext, gIn_sc, gIn_ts, gIn_ls, gIn_t2, gIn_l2, gIn_l4, tdApp, sl_0, sl_1, sl_2, sl_3, sl_4, sl_5, ff, tt', true_and, id,
  eqS, tdFor, tdiT, tdiL, tdiR, tdXp, gList, gEq_ns, tdJoin, gJoin, vwS, gMul, gMod, gDiv, gPow, gI, tdAugS, gdSub, gSet, ixN_2, ixN_3, atI_3, atI_4, gEq_ss, gEq_ii, tdDict, tdPairs, tdNeg, Option.isNone_none, Option.isNone_some, gIsi, tdGet, tdDPut, tdDAug, tdIsN, tdNotN, DO.dic.injEq, Option.isNone_none, Option.isNone_some, gIn_l2, gIn_t2, Option.getD_some, tdLc, gMax, tdNoP, forR, tdRaise, tdCall, tdNotV, tdAndV, tdOrV, tdBox, tdZ, gdTup, gdCons, gdNil, tdBreak, tdCont, tdYes, icast, icast1, icast2, icast3, tdLst, gIn_l4, icastL, icastE, icastZ, ln_0, ln_1, ln_2, ln_3,
  List.getElem?_cons_zero, List.getElem?_cons_succ, List.set_cons_zero, List.set_cons_succ, Option.some.injEq, exists_eq_left', exists_eq_left, D.bl.injEq, decide_eq_true_eq,
  tdFldC, tdMeth, tdMake, tdPutF, tdAugF, D.ref.injEq, DO.ins.injEq, and_assoc, DL.gSub, D.int.injEq, D.str.injEq, sup_same, eq_self, not_true_eq_false, not_false_eq_true, Bool.false_eq_true, Bool.not_eq_true, decide_not, atIn, atI_0, atI_1, atI_2, List.getElem?_map, Option.map_some, Option.map_none, decide_true, decide_false, Bool.not_true, Bool.not_false, if_true, if_false, lm_0, lm_1, lm_2, List.length_map, exists_and_left, *])
variable {P : Program} {w : World} {K : PySem.W.Frag} {mg : Str → Option Value} {base : Heap}
def m_law : M := fun ds S Q E => ∃ ns, ds = [.scr ns] ∧ ∀ S', Q (.bl true) S'
theorem d_law (Z : Zf P w K mg base) {fd : FuncData} (F : Fun K "law" "law" st_law (He.ga K "law") fd) : DF P w K mg base 10 (He.ga K "law") fd ["script"] m_law := by
  refine df_of (k := 9) F sc_law (fun cdv A outer s H E F0 E' B => (dss_one (ds_try0 (dss_one (ds_ret (de_ca (d__law_holds Z) (B.nox.mono (by omega)) rfl (da_cons (de_box (da_cons (de_cT oc_list rfl Z.f_list bb_list (da_cons (dv 0) da_nil)) (da_cons de_int (da_cons de_int (da_cons de_int da_nil))))) da_nil))))))) ?_
  rintro ds S Q E hl ⟨ns, rfl, hq⟩
  rw [show startD N_law [.scr ns] = [some (.scr ns)] from rfl]
  refine ⟨_, rfl, sz5 (show 4 ≤ 1000000 by decide), fun p hp => ⟨rfl, ?_⟩⟩
  refine ⟨p, stO ns 0 0 1, rfl, sup_same, ⟨ns, 0, 0, 1, rfl, ⟨by omega, by omega, by omega⟩⟩, fun S' _ => fini (hq S')⟩
end K06
namespace K06
open PySem PySem.Spec L2 DL
theorem fF {K : PySem.W.Frag} {x qual : Str} {st : Stmt} {f : Addr} {ps : List Str} (F : ∃ fd, FunD K x qual (defArgs st) (defBody st) (defScope st) [] [] f fd)
    (h : ∀ (kV doc pm : Value) (an : Option Addr) (cdv ct : Value) (us : List Value), us.length = ps.length → bindArgs (PySem.W.fnOf x qual (defArgs st) (defBody st) (defScope st) .none kV doc pm an cdv ct) ⟨us, []⟩ = pure (ps.zip us)) :
    ∃ fd, Fun K x qual st f fd ∧ Binds K fd ps [] := by
  obtain ⟨fd, F⟩ := F
  exact ⟨fd, He5.fun_of F, F.bindsN h⟩
theorem fV {K : PySem.W.Frag} {x qual : Str} {st : Stmt} {f : Addr} {ps : List Str} {dvs : List V} (F : ∃ fd, FunD K x qual (defArgs st) (defBody st) (defScope st) dvs [] f fd) (n : Nat) (hd : dvs ≠ []) (hn : n + (dvs.length - 0) = ps.length)
    (h : ∀ (T : Addr) (kV doc pm : Value) (an : Option Addr) (cdv ct : Value) (us its : List Value), us.length = n → its.length = dvs.length →
      ∃ k, bindArgs (PySem.W.fnOf x qual (defArgs st) (defBody st) (defScope st) (.ref T) kV doc pm an cdv ct) ⟨us, []⟩ = seqItems? (.ref T) >>= k ∧ k (some its.toArray) = pure (ps.zip (us ++ its.drop 0))) :
    ∃ fd, FunD K x qual (defArgs st) (defBody st) (defScope st) dvs [] f fd ∧ ∃ ds, Vals dvs ds ∧ Binds K fd ps ds := by
  obtain ⟨fd, F⟩ := F
  exact ⟨fd, F, F.binds1 n 0 hd hn h⟩
def fa : List He.Fa := [.free "bool",
  .free "dict",
  .free "int",
  .free "isinstance",
  .free "len",
  .free "list",
  .free "max",
  .free "min",
  .free "range",
  .free "sorted",
  .free "str",
  .free "tuple",
  .free "zip",
  .glo "ends_of",
  .glo "values_of",
  .glo "literal_value",
  .glo "value_rows",
  .glo "first_state",
  .glo "clock",
  .glo "place_of",
  .glo "known_after",
  .glo "doubt",
  .glo "beliefs",
  .glo "_law_next",
  .glo "_law_same",
  .glo "_law_turned",
  .glo "_law_conj",
  .glo "_law_step",
  .glo "_law_trimmed",
  .glo "_law_design",
  .glo "_law_net",
  .glo "_law_values",
  .glo "_law_clock",
  .glo "_law_first",
  .glo "_law_all_rows",
  .glo "_law_value",
  .glo "_law_claim",
  .glo "_law_holds",
  .glo "law",
  .glo "ChiploreError",
  .glo "TooWide",
  .glo "UnfitNet",
  .glo "Seeing",
  .cls "Seeing",
  .noat "Seeing" "net",
  .noat "Seeing" "observers",
  .noat "Seeing" "runs",
  .noat "Seeing" "known",
  .noat "Seeing" "seen",
  .meth "Seeing" "where",
  .meth "Seeing" "check",
  .meth "Seeing" "observer",
  .meth "Seeing" "knows",
  .mkr "Seeing",
  .glo "NONE",
  .free "super"]
def fn : List He.DefD := [⟨("ends_of", none), "ends_of", "ends_of", defArgs st_ends_of, defBody st_ends_of, defScope st_ends_of, [], []⟩,
  ⟨("values_of", none), "values_of", "values_of", defArgs st_values_of, defBody st_values_of, defScope st_values_of, [.non], []⟩,
  ⟨("literal_value", none), "literal_value", "literal_value", defArgs st_literal_value, defBody st_literal_value, defScope st_literal_value, [], []⟩,
  ⟨("value_rows", none), "value_rows", "value_rows", defArgs st_value_rows, defBody st_value_rows, defScope st_value_rows, [], []⟩,
  ⟨("first_state", none), "first_state", "first_state", defArgs st_first_state, defBody st_first_state, defScope st_first_state, [], []⟩,
  ⟨("clock", none), "clock", "clock", defArgs st_clock, defBody st_clock, defScope st_clock, [], []⟩,
  ⟨("place_of", none), "place_of", "place_of", defArgs st_place_of, defBody st_place_of, defScope st_place_of, [], []⟩,
  ⟨("Seeing", some "__init__"), "__init__", "Seeing.__init__", defArgs st_Seeing___init__, defBody st_Seeing___init__, defScope st_Seeing___init__, [], []⟩,
  ⟨("Seeing", some "where"), "where", "Seeing.where", defArgs st_Seeing_where, defBody st_Seeing_where, defScope st_Seeing_where, [], []⟩,
  ⟨("Seeing", some "check"), "check", "Seeing.check", defArgs st_Seeing_check, defBody st_Seeing_check, defScope st_Seeing_check, [], []⟩,
  ⟨("Seeing", some "observer"), "observer", "Seeing.observer", defArgs st_Seeing_observer, defBody st_Seeing_observer, defScope st_Seeing_observer, [], []⟩,
  ⟨("Seeing", some "knows"), "knows", "Seeing.knows", defArgs st_Seeing_knows, defBody st_Seeing_knows, defScope st_Seeing_knows, [], []⟩,
  ⟨("known_after", none), "known_after", "known_after", defArgs st_known_after, defBody st_known_after, defScope st_known_after, [], []⟩,
  ⟨("doubt", none), "doubt", "doubt", defArgs st_doubt, defBody st_doubt, defScope st_doubt, [], []⟩,
  ⟨("beliefs", none), "beliefs", "beliefs", defArgs st_beliefs, defBody st_beliefs, defScope st_beliefs, [], []⟩,
  ⟨("_law_next", none), "_law_next", "_law_next", defArgs st__law_next, defBody st__law_next, defScope st__law_next, [], []⟩,
  ⟨("_law_same", none), "_law_same", "_law_same", defArgs st__law_same, defBody st__law_same, defScope st__law_same, [], []⟩,
  ⟨("_law_turned", none), "_law_turned", "_law_turned", defArgs st__law_turned, defBody st__law_turned, defScope st__law_turned, [], []⟩,
  ⟨("_law_conj", none), "_law_conj", "_law_conj", defArgs st__law_conj, defBody st__law_conj, defScope st__law_conj, [], []⟩,
  ⟨("_law_step", none), "_law_step", "_law_step", defArgs st__law_step, defBody st__law_step, defScope st__law_step, [], []⟩,
  ⟨("_law_trimmed", none), "_law_trimmed", "_law_trimmed", defArgs st__law_trimmed, defBody st__law_trimmed, defScope st__law_trimmed, [], []⟩,
  ⟨("_law_design", none), "_law_design", "_law_design", defArgs st__law_design, defBody st__law_design, defScope st__law_design, [], []⟩,
  ⟨("_law_net", none), "_law_net", "_law_net", defArgs st__law_net, defBody st__law_net, defScope st__law_net, [], []⟩,
  ⟨("_law_values", none), "_law_values", "_law_values", defArgs st__law_values, defBody st__law_values, defScope st__law_values, [], []⟩,
  ⟨("_law_clock", none), "_law_clock", "_law_clock", defArgs st__law_clock, defBody st__law_clock, defScope st__law_clock, [], []⟩,
  ⟨("_law_first", none), "_law_first", "_law_first", defArgs st__law_first, defBody st__law_first, defScope st__law_first, [], []⟩,
  ⟨("_law_all_rows", none), "_law_all_rows", "_law_all_rows", defArgs st__law_all_rows, defBody st__law_all_rows, defScope st__law_all_rows, [], []⟩,
  ⟨("_law_value", none), "_law_value", "_law_value", defArgs st__law_value, defBody st__law_value, defScope st__law_value, [], []⟩,
  ⟨("_law_claim", none), "_law_claim", "_law_claim", defArgs st__law_claim, defBody st__law_claim, defScope st__law_claim, [], []⟩,
  ⟨("_law_holds", none), "_law_holds", "_law_holds", defArgs st__law_holds, defBody st__law_holds, defScope st__law_holds, [], []⟩,
  ⟨("law", none), "law", "law", defArgs st_law, defBody st_law, defScope st_law, [], []⟩]
def exT (K : PySem.W.Frag) : Bool := He.tupB K "NONE" [.str "none"]
theorem tb_NONE {K : PySem.W.Frag} (h : exT K = true) : He.tupB K "NONE" [.str "none"] = true := h
theorem zf {P : Program} {w : World} {K : PySem.W.Frag} {h : Heap} {mg : Str → Option Value} {base : Heap} (X : K.In h) (G : h.Ns mainGlobals mg) (c : He.SaysD fa fn K) (e : exT K = true) : Zf P w K mg base where
  f_bool := He.free_ok X G (c.fact 0 (f := .free "bool") rfl)
  f_dict := He.free_ok X G (c.fact 1 (f := .free "dict") rfl)
  f_int := He.free_ok X G (c.fact 2 (f := .free "int") rfl)
  f_isinstance := He.free_ok X G (c.fact 3 (f := .free "isinstance") rfl)
  f_len := He.free_ok X G (c.fact 4 (f := .free "len") rfl)
  f_list := He.free_ok X G (c.fact 5 (f := .free "list") rfl)
  f_max := He.free_ok X G (c.fact 6 (f := .free "max") rfl)
  f_min := He.free_ok X G (c.fact 7 (f := .free "min") rfl)
  f_range := He.free_ok X G (c.fact 8 (f := .free "range") rfl)
  f_sorted := He.free_ok X G (c.fact 9 (f := .free "sorted") rfl)
  f_str := He.free_ok X G (c.fact 10 (f := .free "str") rfl)
  f_tuple := He.free_ok X G (c.fact 11 (f := .free "tuple") rfl)
  f_zip := He.free_ok X G (c.fact 12 (f := .free "zip") rfl)
  g_ends_of := He.glo_ok X G (c.fact 13 (f := .glo "ends_of") rfl)
  F_ends_of := fF (c.def_ 0 (d := ⟨("ends_of", none), "ends_of", "ends_of", defArgs st_ends_of, defBody st_ends_of, defScope st_ends_of, [], []⟩) rfl) (fun _ _ _ _ _ _ us hl => match us, hl with | [_], _ => rfl)
  g_values_of := He.glo_ok X G (c.fact 14 (f := .glo "values_of") rfl)
  F_values_of := fV (c.def_ 1 (d := ⟨("values_of", none), "values_of", "values_of", defArgs st_values_of, defBody st_values_of, defScope st_values_of, [.non], []⟩) rfl) 2 (by intro z; cases z) rfl (fun _ _ _ _ _ _ _ us its h1 h2 => match us, its, h1, h2 with | [_, _], [_], _, _ => ⟨_, rfl, rfl⟩)
  g_literal_value := He.glo_ok X G (c.fact 15 (f := .glo "literal_value") rfl)
  F_literal_value := fF (c.def_ 2 (d := ⟨("literal_value", none), "literal_value", "literal_value", defArgs st_literal_value, defBody st_literal_value, defScope st_literal_value, [], []⟩) rfl) (fun _ _ _ _ _ _ us hl => match us, hl with | [_, _], _ => rfl)
  g_value_rows := He.glo_ok X G (c.fact 16 (f := .glo "value_rows") rfl)
  F_value_rows := fF (c.def_ 3 (d := ⟨("value_rows", none), "value_rows", "value_rows", defArgs st_value_rows, defBody st_value_rows, defScope st_value_rows, [], []⟩) rfl) (fun _ _ _ _ _ _ us hl => match us, hl with | [_], _ => rfl)
  g_first_state := He.glo_ok X G (c.fact 17 (f := .glo "first_state") rfl)
  F_first_state := fF (c.def_ 4 (d := ⟨("first_state", none), "first_state", "first_state", defArgs st_first_state, defBody st_first_state, defScope st_first_state, [], []⟩) rfl) (fun _ _ _ _ _ _ us hl => match us, hl with | [_], _ => rfl)
  g_clock := He.glo_ok X G (c.fact 18 (f := .glo "clock") rfl)
  F_clock := fF (c.def_ 5 (d := ⟨("clock", none), "clock", "clock", defArgs st_clock, defBody st_clock, defScope st_clock, [], []⟩) rfl) (fun _ _ _ _ _ _ us hl => match us, hl with | [_, _, _], _ => rfl)
  g_place_of := He.glo_ok X G (c.fact 19 (f := .glo "place_of") rfl)
  F_place_of := fF (c.def_ 6 (d := ⟨("place_of", none), "place_of", "place_of", defArgs st_place_of, defBody st_place_of, defScope st_place_of, [], []⟩) rfl) (fun _ _ _ _ _ _ us hl => match us, hl with | [_, _], _ => rfl)
  F_Seeing___init__ := fF (c.def_ 7 (d := ⟨("Seeing", some "__init__"), "__init__", "Seeing.__init__", defArgs st_Seeing___init__, defBody st_Seeing___init__, defScope st_Seeing___init__, [], []⟩) rfl) (fun _ _ _ _ _ _ us hl => match us, hl with | [_, _, _, _], _ => rfl)
  F_Seeing_where := fF (c.def_ 8 (d := ⟨("Seeing", some "where"), "where", "Seeing.where", defArgs st_Seeing_where, defBody st_Seeing_where, defScope st_Seeing_where, [], []⟩) rfl) (fun _ _ _ _ _ _ us hl => match us, hl with | [_, _, _], _ => rfl)
  F_Seeing_check := fF (c.def_ 9 (d := ⟨("Seeing", some "check"), "check", "Seeing.check", defArgs st_Seeing_check, defBody st_Seeing_check, defScope st_Seeing_check, [], []⟩) rfl) (fun _ _ _ _ _ _ us hl => match us, hl with | [_, _], _ => rfl)
  F_Seeing_observer := fF (c.def_ 10 (d := ⟨("Seeing", some "observer"), "observer", "Seeing.observer", defArgs st_Seeing_observer, defBody st_Seeing_observer, defScope st_Seeing_observer, [], []⟩) rfl) (fun _ _ _ _ _ _ us hl => match us, hl with | [_, _], _ => rfl)
  F_Seeing_knows := fF (c.def_ 11 (d := ⟨("Seeing", some "knows"), "knows", "Seeing.knows", defArgs st_Seeing_knows, defBody st_Seeing_knows, defScope st_Seeing_knows, [], []⟩) rfl) (fun _ _ _ _ _ _ us hl => match us, hl with | [_, _, _, _], _ => rfl)
  g_known_after := He.glo_ok X G (c.fact 20 (f := .glo "known_after") rfl)
  F_known_after := fF (c.def_ 12 (d := ⟨("known_after", none), "known_after", "known_after", defArgs st_known_after, defBody st_known_after, defScope st_known_after, [], []⟩) rfl) (fun _ _ _ _ _ _ us hl => match us, hl with | [_, _, _, _], _ => rfl)
  g_doubt := He.glo_ok X G (c.fact 21 (f := .glo "doubt") rfl)
  F_doubt := fF (c.def_ 13 (d := ⟨("doubt", none), "doubt", "doubt", defArgs st_doubt, defBody st_doubt, defScope st_doubt, [], []⟩) rfl) (fun _ _ _ _ _ _ us hl => match us, hl with | [_, _, _, _, _], _ => rfl)
  g_beliefs := He.glo_ok X G (c.fact 22 (f := .glo "beliefs") rfl)
  F_beliefs := fF (c.def_ 14 (d := ⟨("beliefs", none), "beliefs", "beliefs", defArgs st_beliefs, defBody st_beliefs, defScope st_beliefs, [], []⟩) rfl) (fun _ _ _ _ _ _ us hl => match us, hl with | [_, _, _], _ => rfl)
  g__law_next := He.glo_ok X G (c.fact 23 (f := .glo "_law_next") rfl)
  F__law_next := fF (c.def_ 15 (d := ⟨("_law_next", none), "_law_next", "_law_next", defArgs st__law_next, defBody st__law_next, defScope st__law_next, [], []⟩) rfl) (fun _ _ _ _ _ _ us hl => match us, hl with | [_, _], _ => rfl)
  g__law_same := He.glo_ok X G (c.fact 24 (f := .glo "_law_same") rfl)
  F__law_same := fF (c.def_ 16 (d := ⟨("_law_same", none), "_law_same", "_law_same", defArgs st__law_same, defBody st__law_same, defScope st__law_same, [], []⟩) rfl) (fun _ _ _ _ _ _ us hl => match us, hl with | [_, _], _ => rfl)
  g__law_turned := He.glo_ok X G (c.fact 25 (f := .glo "_law_turned") rfl)
  F__law_turned := fF (c.def_ 17 (d := ⟨("_law_turned", none), "_law_turned", "_law_turned", defArgs st__law_turned, defBody st__law_turned, defScope st__law_turned, [], []⟩) rfl) (fun _ _ _ _ _ _ us hl => match us, hl with | [_], _ => rfl)
  g__law_conj := He.glo_ok X G (c.fact 26 (f := .glo "_law_conj") rfl)
  F__law_conj := fF (c.def_ 18 (d := ⟨("_law_conj", none), "_law_conj", "_law_conj", defArgs st__law_conj, defBody st__law_conj, defScope st__law_conj, [], []⟩) rfl) (fun _ _ _ _ _ _ us hl => match us, hl with | [_, _, _, _], _ => rfl)
  g__law_step := He.glo_ok X G (c.fact 27 (f := .glo "_law_step") rfl)
  F__law_step := fF (c.def_ 19 (d := ⟨("_law_step", none), "_law_step", "_law_step", defArgs st__law_step, defBody st__law_step, defScope st__law_step, [], []⟩) rfl) (fun _ _ _ _ _ _ us hl => match us, hl with | [_, _, _, _, _, _], _ => rfl)
  g__law_trimmed := He.glo_ok X G (c.fact 28 (f := .glo "_law_trimmed") rfl)
  F__law_trimmed := fF (c.def_ 20 (d := ⟨("_law_trimmed", none), "_law_trimmed", "_law_trimmed", defArgs st__law_trimmed, defBody st__law_trimmed, defScope st__law_trimmed, [], []⟩) rfl) (fun _ _ _ _ _ _ us hl => match us, hl with | [_, _, _], _ => rfl)
  g__law_design := He.glo_ok X G (c.fact 29 (f := .glo "_law_design") rfl)
  F__law_design := fF (c.def_ 21 (d := ⟨("_law_design", none), "_law_design", "_law_design", defArgs st__law_design, defBody st__law_design, defScope st__law_design, [], []⟩) rfl) (fun _ _ _ _ _ _ us hl => match us, hl with | [_, _, _, _], _ => rfl)
  g__law_net := He.glo_ok X G (c.fact 30 (f := .glo "_law_net") rfl)
  F__law_net := fF (c.def_ 22 (d := ⟨("_law_net", none), "_law_net", "_law_net", defArgs st__law_net, defBody st__law_net, defScope st__law_net, [], []⟩) rfl) (fun _ _ _ _ _ _ us hl => match us, hl with | [_, _], _ => rfl)
  g__law_values := He.glo_ok X G (c.fact 31 (f := .glo "_law_values") rfl)
  F__law_values := fF (c.def_ 23 (d := ⟨("_law_values", none), "_law_values", "_law_values", defArgs st__law_values, defBody st__law_values, defScope st__law_values, [], []⟩) rfl) (fun _ _ _ _ _ _ us hl => match us, hl with | [_, _, _], _ => rfl)
  g__law_clock := He.glo_ok X G (c.fact 32 (f := .glo "_law_clock") rfl)
  F__law_clock := fF (c.def_ 24 (d := ⟨("_law_clock", none), "_law_clock", "_law_clock", defArgs st__law_clock, defBody st__law_clock, defScope st__law_clock, [], []⟩) rfl) (fun _ _ _ _ _ _ us hl => match us, hl with | [_, _, _, _], _ => rfl)
  g__law_first := He.glo_ok X G (c.fact 33 (f := .glo "_law_first") rfl)
  F__law_first := fF (c.def_ 25 (d := ⟨("_law_first", none), "_law_first", "_law_first", defArgs st__law_first, defBody st__law_first, defScope st__law_first, [], []⟩) rfl) (fun _ _ _ _ _ _ us hl => match us, hl with | [_], _ => rfl)
  g__law_all_rows := He.glo_ok X G (c.fact 34 (f := .glo "_law_all_rows") rfl)
  F__law_all_rows := fF (c.def_ 26 (d := ⟨("_law_all_rows", none), "_law_all_rows", "_law_all_rows", defArgs st__law_all_rows, defBody st__law_all_rows, defScope st__law_all_rows, [], []⟩) rfl) (fun _ _ _ _ _ _ us hl => match us, hl with | [_], _ => rfl)
  g__law_value := He.glo_ok X G (c.fact 35 (f := .glo "_law_value") rfl)
  F__law_value := fF (c.def_ 27 (d := ⟨("_law_value", none), "_law_value", "_law_value", defArgs st__law_value, defBody st__law_value, defScope st__law_value, [], []⟩) rfl) (fun _ _ _ _ _ _ us hl => match us, hl with | [_, _], _ => rfl)
  g__law_claim := He.glo_ok X G (c.fact 36 (f := .glo "_law_claim") rfl)
  F__law_claim := fF (c.def_ 28 (d := ⟨("_law_claim", none), "_law_claim", "_law_claim", defArgs st__law_claim, defBody st__law_claim, defScope st__law_claim, [], []⟩) rfl) (fun _ _ _ _ _ _ us hl => match us, hl with | [_, _, _], _ => rfl)
  g__law_holds := He.glo_ok X G (c.fact 37 (f := .glo "_law_holds") rfl)
  F__law_holds := fF (c.def_ 29 (d := ⟨("_law_holds", none), "_law_holds", "_law_holds", defArgs st__law_holds, defBody st__law_holds, defScope st__law_holds, [], []⟩) rfl) (fun _ _ _ _ _ _ us hl => match us, hl with | [_], _ => rfl)
  g_law := He.glo_ok X G (c.fact 38 (f := .glo "law") rfl)
  F_law := fF (c.def_ 30 (d := ⟨("law", none), "law", "law", defArgs st_law, defBody st_law, defScope st_law, [], []⟩) rfl) (fun _ _ _ _ _ _ us hl => match us, hl with | [_], _ => rfl)
  g_ChiploreError := He.glo_ok X G (c.fact 39 (f := .glo "ChiploreError") rfl)
  g_TooWide := He.glo_ok X G (c.fact 40 (f := .glo "TooWide") rfl)
  g_UnfitNet := He.glo_ok X G (c.fact 41 (f := .glo "UnfitNet") rfl)
  g_Seeing := He.glo_ok X G (c.fact 42 (f := .glo "Seeing") rfl)
  c_Seeing := He.cls_ok (c.fact 43 (f := .cls "Seeing") rfl)
  n_Seeing_net := He.noat_ok (c.fact 44 (f := .noat "Seeing" "net") rfl)
  n_Seeing_observers := He.noat_ok (c.fact 45 (f := .noat "Seeing" "observers") rfl)
  n_Seeing_runs := He.noat_ok (c.fact 46 (f := .noat "Seeing" "runs") rfl)
  n_Seeing_known := He.noat_ok (c.fact 47 (f := .noat "Seeing" "known") rfl)
  n_Seeing_seen := He.noat_ok (c.fact 48 (f := .noat "Seeing" "seen") rfl)
  m_Seeing_where := He.meth_ok (c.fact 49 (f := .meth "Seeing" "where") rfl)
  m_Seeing_check := He.meth_ok (c.fact 50 (f := .meth "Seeing" "check") rfl)
  m_Seeing_observer := He.meth_ok (c.fact 51 (f := .meth "Seeing" "observer") rfl)
  m_Seeing_knows := He.meth_ok (c.fact 52 (f := .meth "Seeing" "knows") rfl)
  k_Seeing := He.mkr_ok (c.fact 53 (f := .mkr "Seeing") rfl)
  g_NONE := He.glo_ok X G (c.fact 54 (f := .glo "NONE") rfl)
  t_NONE := fun H => He.tupB_ok (x := "NONE") (vs := [.str "none"]) (tb_NONE e) H
theorem z_super {K : PySem.W.Frag} {h : Heap} {mg : Str → Option Value} (X : K.In h) (G : h.Ns mainGlobals mg) (c : He.SaysD fa fn K) : mg "super" = none := He.free_ok X G (c.fact 55 (f := .free "super") rfl)
theorem z_str {K : PySem.W.Frag} {h : Heap} {mg : Str → Option Value} (X : K.In h) (G : h.Ns mainGlobals mg) (c : He.SaysD fa fn K) : mg "str" = none := He.free_ok X G (c.fact 10 (f := .free "str") rfl)
theorem z_glaw {K : PySem.W.Frag} {h : Heap} {mg : Str → Option Value} (X : K.In h) (G : h.Ns mainGlobals mg) (c : He.SaysD fa fn K) : mg "law" = some (.ref (He.ga K "law")) := He.glo_ok X G (c.fact 38 (f := .glo "law") rfl)
theorem z_law {K : PySem.W.Frag} (c : He.SaysD fa fn K) : ∃ fd, FunD K "law" "law" (defArgs st_law) (defBody st_law) (defScope st_law) [] [] (He.ga K "law") fd := c.def_ 30 (d := ⟨("law", none), "law", "law", defArgs st_law, defBody st_law, defScope st_law, [], []⟩) rfl
abbrev PR : Program := PySem.Challenge.pw_chiplore_k06_whole_knowing_of_designs
def asR (g : Addr → Option Obj) (n : Nat) : List Addr := cStatics :: He.asD g n
abbrev AlR : Type := He.AlD × Bool
def obsR (n : Nat) (g : Addr → Option Obj) : AlR := (He.obsD fa fn (He.frG g (asR g n)), exT (He.frG g (asR g n)))
def valR : AlR := (He.valD fn, true)
structure SaysR (w : World) (K : PySem.W.Frag) : Prop where
  c : He.SaysD fa fn K
  t : exT K = true
def hk : PySem.W.Hook where
  α := AlR
  obs := fun s => obsR 5 s.heap.get?
  val := fun _ => valR
  says := fun w h => ∃ K : PySem.W.Frag, K.In h ∧ SaysR w K
  of := fun w s e => by
    have e1 : He.obsD fa fn (He.frG s.heap.get? (asR s.heap.get? 5)) = He.valD fn := congrArg (fun z : AlR => z.1) e
    have e2 : exT (He.frG s.heap.get? (asR s.heap.get? 5)) = true := congrArg (fun z : AlR => z.2) e
    exact ⟨_, He.frG_in, e1, e2⟩
  keeps := fun _ _ _ ⟨K, hK, c⟩ k => ⟨K, PySem.W.Frag.In.keeps hK k, c⟩
abbrev R : PySem.W.OpenRow := PySem.W.OpenLaw.row PySem.Challenge.rw_chiplore_k06_whole_knowing_of_designs
def ob (s : PySem.W.SharedT) : AlR := obsR 5 (HandSHeadRun.getT s)
theorem ob_eq (s : PySem.W.SharedT) : ob s = hk.obs s.abs := by
  have e : HandSHeadRun.getT s = s.abs.heap.get? := funext (HandSHeadRun.getT_eq s)
  unfold ob
  rw [e]
  rfl
def loose : List Str := ([("NONE" : Str), "ChiploreError", "TooWide", "UnfitNet", "ends_of", "values_of", "literal_value", "value_rows", "first_state", "clock", "place_of", "Seeing", "known_after", "doubt", "beliefs"] : List Str) ++
  ([("_law_next" : Str), "_law_same", "_law_turned", "_law_conj", "_law_step", "_law_trimmed", "_law_design", "_law_net", "_law_values", "_law_clock", "_law_first", "_law_all_rows", "_law_value", "_law_claim", "_law_holds"] : List Str)
theorem run (w : World) : HandSHeadRun.RunEq R (PySem.W.view R.prog [35]) hk ob 14000 loose w := by
  intro os
  kernel_rfl
def spLaw (K : PySem.W.Frag) : Sp := fun vs H Q _ => spM K m_law 1 vs H Q (fun _ _ _ => False)
theorem law_ok {w : World} {K : PySem.W.Frag} {h : Heap} {mg : Str → Option Value} {f : Addr} (X : K.In h) (G : h.Ns mainGlobals mg) (hf : mg ("law" : Str) = some (.ref f)) (c : SaysR w K) :
    ∃ fd : FuncData, (∀ (s : Shared) (v : Value), BindsTo s fd ⟨[v], []⟩ [("script", v)]) ∧ ∀ base : Heap, K.In base → base.Ns mainGlobals mg → FnOk PR w K mg base L2.CX0 105 f fd ["script"] (spLaw K) := by
  obtain ⟨fd, F⟩ := z_law c.c
  have Fn : Fun K "law" "law" st_law (He.ga K "law") fd := He5.fun_of F
  have e := hf.symm.trans (z_glaw X G c.c)
  have ef : f = He.ga K "law" := by injection e with e; injection e
  subst ef
  have b := FunD.bindsA (ps := ["script"]) F fun _ _ _ _ _ _ us hl => match us, hl with | [_], _ => rfl
  refine ⟨fd, fun s v => b s [v] rfl, fun base KB GB => ?_⟩
  have Z : Zf PR w K mg base := zf X G c.c c.t
  have D := d_law Z Fn
  refine ⟨fun vs H Q E hs => D.many vs H Q _ hs, fun A outer s H args us vs Q E hr e0 hb r hs => codeAny_mono (D.goes A outer s H args us vs Q (fun _ _ _ => False) (Rm.of hr (by decide) (by decide)) e0 hb r hs) (fun r s' h => ?_)⟩
  cases r with
  | ok f =>
    cases f with
    | ret u => exact h
    | _ => exact h
  | error e =>
    obtain ⟨_, _, _, _, _, _, _, _, _, _, _, _, z⟩ := h
    exact z.elim
theorem law_pre {K : PySem.W.Frag} {H : Hp} {a : Addr} {ns : List Int} (hS : SqL K H a (ns.map V.int)) : spLaw K [.ref a] H (fun v _ => v = .bl true) fun _ _ _ => False := by
  refine ⟨fun b => if b = a then H a else none, fun _ => none, [.scr ns], fun d _ => d = .bl true, fun _ _ => False, ⟨fun b u q => ?_, fun b u q => by cases q⟩, ?_, rfl, ⟨ns, rfl, fun _ => rfl⟩, fun v H' F' S' d x sr r q => ?_, fun _ _ _ _ _ _ _ _ _ z => z.elim⟩
  · have q' : (if b = a then H a else none) = some u := q
    split at q'
    · rename_i e
      rw [e]; exact q'
    · cases q'
  · refine .cons ?_ .nil
    unfold RelD
    refine ⟨a, rfl, ?_⟩
    have ea : (fun b => if b = a then H a else none) a = H a := if_pos rfl
    rcases hS with (h | ⟨o, h⟩) | h
    · exact .inl (.inl (ea.trans h))
    · exact .inl (.inr ⟨o, ea.trans h⟩)
    · exact .inr h
  · subst q
    exact r.bl_e
end K06
open PySem PySem.W PySem.Calls PyProof.Rows
theorem PySem.Challenge.cw_chiplore_k06_whole_knowing_of_designs_holds : PySem.Challenge.rw_chiplore_k06_whole_knowing_of_designs.Holds := by
  w_on; o_law
  refine HandSHeadRun.head_any (r := OpenLaw.row PySem.Challenge.rw_chiplore_k06_whole_knowing_of_designs) (q := view (OpenLaw.row PySem.Challenge.rw_chiplore_k06_whole_knowing_of_designs).prog [35]) (H := K06.hk) (ob := K06.ob) (M := 14000) (loose := K06.loose) (d := HandSHeadRun.topDef (OpenLaw.row PySem.Challenge.rw_chiplore_k06_whole_knowing_of_designs).prog 35) (kwd := []) K06.ob_eq
    (by kernel_rfl) (fun s => by kernel_rfl) K06.run (by kernel_rfl) (by kernel_rfl) (by kernel_rfl) (by rfl) (by first | assumption | decide +kernel) (by decide +kernel) ⟨rfl, rfl, rfl, rfl, rfl, by decide +kernel⟩ ?hw ?hc
  case hw => w_witness2
  case hc =>
    refine L2.walk_ofE (l := PySem.Challenge.rw_chiplore_k06_whole_knowing_of_designs) (n := 63) (k := 105) (x := "script") (CX := L2.CX0) rfl (by decide) (by kernel_rfl) ⟨rfl, by decide, by decide⟩ ?F (fun _ _ _ _ z => z)
    intro w mg fa h Y G hmg0
    obtain ⟨K, KX, c⟩ := Y
    have hmg : mg ("law" : PySem.Str) = some (.ref fa) := by
      have e : (HandSHeadRun.topDef (OpenLaw.row PySem.Challenge.rw_chiplore_k06_whole_knowing_of_designs).prog 35).name = ("law" : PySem.Str) := by kernel_rfl
      rw [← e]
      exact hmg0
    obtain ⟨fd, hb, hF⟩ := K06.law_ok KX G hmg c
    exact ⟨K, fd, K06.spLaw K, KX, hb, fun H a ns hl _ hS => K06.law_pre hS, hF⟩
