import PyProof.Rows.All
import Wide.All
import OpenK.AllK
import Wide.FinOn
import HandS.ForMost
import HandS.Exc
import HandS.ExcOwn
import HandS.WordsExc
import HandS.IsInst
import HandS.CallLocal
import HandS.ExcInit
import KE.KExcSuper
import KE.KExcMake
import HandS.ClsMeth
import HandS.ExcField
import HandS.ExcIs
import HandS.TryOnly
import HandS.HeadHook4
import HandS.HeadNt
import HandS.HeadHook3
import HandS.More
import HandS.Head0
import HandS.Head1
import HandS.Head2
import HandS.HeadEnd
import HandS.HeadHook1
import HandS.HeadHook2
import HandS.Head3
import PySem.Challenge.RW_chiplore_k63_written_definitions_read_ba
set_option Elab.async false
set_option linter.all false
set_option maxRecDepth 100000
set_option maxHeartbeats 0
namespace DL
open PySem PySem.Spec L2
/-- a text by its codes -/
abbrev Tx := List Nat
abbrev tS (t : Tx) : Str := ⟨t.toArray⟩
def tx (s : String) : Tx := s.toList.map Char.toNat
theorem ofString_tx (s : String) : Str.ofString s = tS (tx s) := by
  unfold Str.ofString
  rw [cpsOfBytes_string]; rfl
theorem tS_inj {a b : Tx} (h : tS a = tS b) : a = b := by
  have := congrArg (fun s : Str => s.cps.toList) h
  simpa using this
theorem tS_of (x : Str) : x = tS x.cps.toList := by cases x; simp
theorem tS_append (a b : Tx) : tS a ++ tS b = tS (a ++ b) := by
  show (⟨a.toArray ++ b.toArray⟩ : Str) = _
  simp
theorem tS_length (a : Tx) : (tS a).length = a.length := by
  show a.toArray.size = _
  simp
inductive D where
  | non | bl (b : Bool) | int (i : Int) | str (x : Tx) | tup (xs : List D) | lst (xs : List D) | scr (ns : List Int) | ref (a : Addr) | ty (n : String)
  deriving Inhabited
mutual
/-- v stands for d, its tuples and lists in the frozen heap F -/
def RelD (K : PySem.W.Frag) (F : Hp) : D → V → Prop
  | .non, v => v = .non
  | .bl b, v => v = .bl b
  | .int i, v => v = .int i
  | .str x, v => v = .str (tS x)
  | .tup ds, v => ∃ a vs, v = .ref a ∧ SqT K F a vs ∧ RelDs K F ds vs
  | .lst ds, v => ∃ a vs, v = .ref a ∧ F a = some (.lst vs) ∧ RelDs K F ds vs
  | .scr ns, v => ∃ a, v = .ref a ∧ SqL K F a (ns.map V.int)
  | .ref a, v => v = .ref a
  | .ty n, v => v = .ty n
def RelDs (K : PySem.W.Frag) (F : Hp) : List D → List V → Prop
  | [], vs => vs = []
  | d :: ds, vs => ∃ v r, vs = v :: r ∧ RelD K F d v ∧ RelDs K F ds r
end
section
variable {K : PySem.W.Frag} {F F' : Hp}
theorem seqT {a : Addr} {xs : List V} (e : Same F F') (h : SqT K F a xs) : SqT K F' a xs := by
  rcases h with (h | ⟨o, h⟩) | h
  · exact .inl (.inl (e _ _ h))
  · exact .inl (.inr ⟨o, e _ _ h⟩)
  · exact .inr h
mutual
theorem RelD.mono (e : Same F F') : ∀ (d : D) (v : V), RelD K F d v → RelD K F' d v
  | .non, _, h => by unfold RelD at h ⊢; exact h
  | .bl _, _, h => by unfold RelD at h ⊢; exact h
  | .int _, _, h => by unfold RelD at h ⊢; exact h
  | .str _, _, h => by unfold RelD at h ⊢; exact h
  | .ref _, _, h => by unfold RelD at h ⊢; exact h
  | .ty _, _, h => by unfold RelD at h ⊢; exact h
  | .tup ds, _, h => by
    unfold RelD at h ⊢
    obtain ⟨a, vs, h1, h2, h3⟩ := h
    exact ⟨a, vs, h1, seqT e h2, RelDs.mono e ds vs h3⟩
  | .lst ds, _, h => by
    unfold RelD at h ⊢
    obtain ⟨a, vs, h1, h2, h3⟩ := h
    exact ⟨a, vs, h1, e _ _ h2, RelDs.mono e ds vs h3⟩
  | .scr ns, _, h => by
    unfold RelD at h ⊢
    obtain ⟨a, h1, h2⟩ := h
    exact ⟨a, h1, e.seq h2⟩
theorem RelDs.mono (e : Same F F') : ∀ (ds : List D) (vs : List V), RelDs K F ds vs → RelDs K F' ds vs
  | [], _, h => by unfold RelDs at h ⊢; exact h
  | d :: ds, _, h => by
    unfold RelDs at h ⊢
    obtain ⟨v, r, h1, h2, h3⟩ := h
    exact ⟨v, r, h1, RelD.mono e d v h2, RelDs.mono e ds r h3⟩
end
theorem RelDs.nil : RelDs K F [] [] := by unfold RelDs; rfl
theorem RelDs.cons {d : D} {ds : List D} {v : V} {vs : List V} (h : RelD K F d v) (t : RelDs K F ds vs) : RelDs K F (d :: ds) (v :: vs) := by
  unfold RelDs; exact ⟨v, vs, rfl, h, t⟩
theorem RelDs.nil_inv {vs : List V} (h : RelDs K F [] vs) : vs = [] := by unfold RelDs at h; exact h
theorem RelDs.cons_inv {d : D} {ds : List D} {vs : List V} (h : RelDs K F (d :: ds) vs) : ∃ v r, vs = v :: r ∧ RelD K F d v ∧ RelDs K F ds r := by unfold RelDs at h; exact h
theorem RelDs.length : ∀ {ds : List D} {vs : List V}, RelDs K F ds vs → vs.length = ds.length
  | [], _, h => by rw [h.nil_inv]; rfl
  | d :: ds, _, h => by
    obtain ⟨v, r, rfl, _, h3⟩ := h.cons_inv
    simp [RelDs.length h3]
theorem RelDs.get : ∀ {ds : List D} {vs : List V} {i : Nat} {d : D}, RelDs K F ds vs → ds[i]? = some d → ∃ v, vs[i]? = some v ∧ RelD K F d v
  | [], _, i, d, _, h => by simp at h
  | d :: ds, _, 0, d', h, e => by
    obtain ⟨v, r, rfl, h2, _⟩ := h.cons_inv
    simp at e; subst e
    exact ⟨v, rfl, h2⟩
  | d :: ds, _, i + 1, d', h, e => by
    obtain ⟨v, r, rfl, _, h3⟩ := h.cons_inv
    obtain ⟨w, h4, h5⟩ := RelDs.get (i := i) h3 (by simpa using e)
    exact ⟨w, by simpa using h4, h5⟩
theorem RelDs.get' : ∀ {ds : List D} {vs : List V} {i : Nat} {v : V}, RelDs K F ds vs → vs[i]? = some v → ∃ d, ds[i]? = some d ∧ RelD K F d v
  | [], _, i, v, h, e => by rw [h.nil_inv] at e; simp at e
  | d :: ds, _, 0, v', h, e => by
    obtain ⟨v, r, rfl, h2, _⟩ := h.cons_inv
    simp at e; subst e
    exact ⟨d, rfl, h2⟩
  | d :: ds, _, i + 1, v', h, e => by
    obtain ⟨v, r, rfl, _, h3⟩ := h.cons_inv
    obtain ⟨w, h4, h5⟩ := RelDs.get' (i := i) h3 (by simpa using e)
    exact ⟨w, by simpa using h4, h5⟩
theorem RelDs.append : ∀ {ds es : List D} {vs ws : List V}, RelDs K F ds vs → RelDs K F es ws → RelDs K F (ds ++ es) (vs ++ ws)
  | [], _, _, _, h, g => by rw [h.nil_inv]; exact g
  | d :: ds, _, _, _, h, g => by
    obtain ⟨v, r, rfl, h2, h3⟩ := h.cons_inv
    exact .cons h2 (RelDs.append h3 g)
theorem RelDs.take : ∀ {ds : List D} {vs : List V} (n : Nat), RelDs K F ds vs → RelDs K F (ds.take n) (vs.take n)
  | _, _, 0, _ => .nil
  | [], _, n + 1, h => by rw [h.nil_inv]; exact .nil
  | d :: ds, _, n + 1, h => by
    obtain ⟨v, r, rfl, h2, h3⟩ := h.cons_inv
    exact .cons h2 (RelDs.take n h3)
theorem RelDs.drop : ∀ {ds : List D} {vs : List V} (n : Nat), RelDs K F ds vs → RelDs K F (ds.drop n) (vs.drop n)
  | _, _, 0, h => h
  | [], _, n + 1, h => by rw [h.nil_inv]; exact .nil
  | d :: ds, _, n + 1, h => by
    obtain ⟨v, r, rfl, h2, h3⟩ := h.cons_inv
    exact RelDs.drop n h3
theorem RelDs.set {d : D} {v : V} (hd : RelD K F d v) : ∀ {ds : List D} {vs : List V} (i : Nat), RelDs K F ds vs → RelDs K F (ds.set i d) (vs.set i v)
  | [], _, _, h => by rw [h.nil_inv]; exact .nil
  | d :: ds, _, 0, h => by
    obtain ⟨v, r, rfl, h2, h3⟩ := h.cons_inv
    exact .cons hd h3
  | d :: ds, _, i + 1, h => by
    obtain ⟨v, r, rfl, h2, h3⟩ := h.cons_inv
    exact .cons h2 (RelDs.set hd i h3)
theorem RelDs.ints : ∀ ns : List Int, RelDs K F (ns.map D.int) (ns.map V.int)
  | [] => .nil
  | n :: ns => .cons (by unfold RelD; rfl) (RelDs.ints ns)
theorem RelD.int_i (i : Int) : RelD K F (.int i) (.int i) := by unfold RelD; rfl
theorem RelD.bl_i (b : Bool) : RelD K F (.bl b) (.bl b) := by unfold RelD; rfl
theorem RelD.non_i : RelD K F .non .non := by unfold RelD; rfl
theorem RelD.str_i (x : Tx) : RelD K F (.str x) (.str (tS x)) := by unfold RelD; rfl
theorem RelD.ref_i (a : Addr) : RelD K F (.ref a) (.ref a) := by unfold RelD; rfl
theorem RelD.int_e {i : Int} {v : V} (h : RelD K F (.int i) v) : v = .int i := by unfold RelD at h; exact h
theorem RelD.bl_e {i : Bool} {v : V} (h : RelD K F (.bl i) v) : v = .bl i := by unfold RelD at h; exact h
theorem RelD.non_e {v : V} (h : RelD K F .non v) : v = .non := by unfold RelD at h; exact h
theorem RelD.str_e {i : Tx} {v : V} (h : RelD K F (.str i) v) : v = .str (tS i) := by unfold RelD at h; exact h
theorem RelD.ty_i (a : String) : RelD K F (.ty a) (.ty a) := by unfold RelD; rfl
theorem RelD.ty_e {a : String} {v : V} (h : RelD K F (.ty a) v) : v = .ty a := by unfold RelD at h; exact h
theorem RelD.ref_e {a : Addr} {v : V} (h : RelD K F (.ref a) v) : v = .ref a := by unfold RelD at h; exact h
theorem RelD.tup_e {ds : List D} {v : V} (h : RelD K F (.tup ds) v) : ∃ a vs, v = .ref a ∧ SqT K F a vs ∧ RelDs K F ds vs := by unfold RelD at h; exact h
theorem RelD.lst_e {ds : List D} {v : V} (h : RelD K F (.lst ds) v) : ∃ a vs, v = .ref a ∧ F a = some (.lst vs) ∧ RelDs K F ds vs := by unfold RelD at h; exact h
theorem RelD.scr_e {ns : List Int} {v : V} (h : RelD K F (.scr ns) v) : ∃ a, v = .ref a ∧ SqL K F a (ns.map V.int) := by unfold RelD at h; exact h
theorem RelD.tup_i {ds : List D} {a : Addr} {vs : List V} (h : SqT K F a vs) (r : RelDs K F ds vs) : RelD K F (.tup ds) (.ref a) := by unfold RelD; exact ⟨a, vs, rfl, h, r⟩
theorem RelD.lst_i {ds : List D} {a : Addr} {vs : List V} (h : F a = some (.lst vs)) (r : RelDs K F ds vs) : RelD K F (.lst ds) (.ref a) := by unfold RelD; exact ⟨a, vs, rfl, h, r⟩
theorem RelD.scr_i {ns : List Int} {a : Addr} (h : SqL K F a (ns.map V.int)) : RelD K F (.scr ns) (.ref a) := by unfold RelD; exact ⟨a, rfl, h⟩
end
def RelF {κ : Type} (K : PySem.W.Frag) (F : Hp) : List (κ × D) → List (κ × V) → Prop
  | [], ws => ws = []
  | (k, d) :: fs, ws => ∃ v r, ws = (k, v) :: r ∧ RelD K F d v ∧ RelF K F fs r
section
variable {κ : Type} {K : PySem.W.Frag} {F F' : Hp}
theorem RelF.mono (e : Same F F') : ∀ {fs : List (κ × D)} {ws : List (κ × V)}, RelF K F fs ws → RelF K F' fs ws
  | [], _, h => h
  | (k, d) :: fs, _, h => by
    obtain ⟨v, r, rfl, h2, h3⟩ := h
    exact ⟨v, r, rfl, RelD.mono e d v h2, RelF.mono e h3⟩
theorem RelF.length : ∀ {fs : List (κ × D)} {ws : List (κ × V)}, RelF K F fs ws → ws.length = fs.length
  | [], _, h => by rw [show _ = _ from h]; rfl
  | (k, d) :: fs, _, h => by
    obtain ⟨v, r, rfl, h2, h3⟩ := h
    simp [RelF.length h3]
theorem RelF.keys : ∀ {fs : List (κ × D)} {ws : List (κ × V)}, RelF K F fs ws → ws.map (·.1) = fs.map (·.1)
  | [], _, h => by rw [show _ = _ from h]; rfl
  | (k, d) :: fs, _, h => by
    obtain ⟨v, r, rfl, h2, h3⟩ := h
    simp [RelF.keys h3]
theorem RelF.lookup [BEq κ] {k : κ} {d : D} : ∀ {fs : List (κ × D)} {ws : List (κ × V)}, RelF K F fs ws → fs.lookup k = some d → ∃ v, ws.lookup k = some v ∧ RelD K F d v
  | [], _, h, e => by cases e
  | (k', d') :: fs, _, h, e => by
    obtain ⟨v, r, rfl, h2, h3⟩ := h
    unfold List.lookup at e ⊢
    cases q : (k == k') with
    | true =>
      rw [q] at e
      cases e
      exact ⟨v, rfl, h2⟩
    | false =>
      rw [q] at e
      exact RelF.lookup h3 e
theorem RelF.lookup_none [BEq κ] {k : κ} : ∀ {fs : List (κ × D)} {ws : List (κ × V)}, RelF K F fs ws → fs.lookup k = none → ws.lookup k = none
  | [], _, h, e => by rw [show _ = _ from h]; rfl
  | (k', d') :: fs, _, h, e => by
    obtain ⟨v, r, rfl, h2, h3⟩ := h
    unfold List.lookup at e ⊢
    cases q : (k == k') with
    | true => rw [q] at e; cases e
    | false =>
      rw [q] at e
      exact RelF.lookup_none h3 e
end
/-- a dict's key -/
abbrev DK := Sum Int Tx
def kk : DK → Key
  | .inl i => .inl i
  | .inr t => .inr (tS t)
theorem kk_inj {a b : DK} (h : kk a = kk b) : a = b := by
  cases a <;> cases b <;> simp only [kk, Sum.inl.injEq, Sum.inr.injEq, reduceCtorEq] at h
  · rw [h]
  · rw [tS_inj h]
inductive DO where
  | lst (ds : List D)
  | dic (kvs : List (DK × D))
  | ins (C : Addr) (fs : List (Str × D))
abbrev Store := Addr → Option DO
def sup (S : Store) (a : Addr) (o : DO) : Store := fun b => if b = a then some o else S b
def sdel (S : Store) (a : Addr) : Store := fun b => if b = a then none else S b
theorem sup_same {S : Store} {a : Addr} {o : DO} : sup S a o a = some o := by unfold sup; rw [if_pos rfl]
theorem sup_ne {S : Store} {a b : Addr} {o : DO} (h : b ≠ a) : sup S a o b = S b := by unfold sup; rw [if_neg h]
theorem sup_sup {S : Store} {a : Addr} {o u : DO} : sup (sup S a o) a u = sup S a u := by funext b; unfold sup; split <;> rfl
theorem sdel_sup {S : Store} {a : Addr} {o : DO} (h : S a = none) : sdel (sup S a o) a = S := by
  funext b; unfold sdel sup
  by_cases e : b = a
  · rw [if_pos e, e, h]
  · rw [if_neg e, if_neg e]
theorem sup_id {S : Store} {a : Addr} {o : DO} (h : S a = some o) : sup S a o = S := by
  funext b; unfold sup
  by_cases e : b = a
  · rw [if_pos e, e, h]
  · rw [if_neg e]
theorem sup_comm {S : Store} {a b : Addr} {o u : DO} (h : a ≠ b) : sup (sup S a o) b u = sup (sup S b u) a o := by
  funext c; unfold sup
  by_cases e : c = b
  · rw [if_pos e, if_neg (by rw [e]; exact h.symm), if_pos e]
  · rw [if_neg e, if_neg e]
def Sub (S S' : Store) : Prop := ∀ a o, S a = some o → S' a = some o
theorem Sub.refl (S : Store) : Sub S S := fun _ _ h => h
theorem Sub.trans {A B C : Store} (h : Sub A B) (g : Sub B C) : Sub A C := fun a o e => g a o (h a o e)
theorem Sub.sup {S : Store} {a : Addr} {o : DO} (h : S a = none) : Sub S (sup S a o) := fun b u e => by
  rw [sup_ne]; exact e
  intro z; rw [z, h] at e; cases e
theorem Sub.sup2 {S S' : Store} {a : Addr} {o : DO} (g : Sub S S') (h : S a = none) : Sub S (DL.sup S' a o) := fun b u e => by
  rw [sup_ne]; exact g _ _ e
  intro z; rw [z, h] at e; cases e
def RelO (K : PySem.W.Frag) (F : Hp) : DO → HO → Prop
  | .lst ds, o => ∃ vs, o = .lst vs ∧ RelDs K F ds vs
  | .dic kvs, o => ∃ ws, o = .dK ws ∧ RelF K F (kvs.map fun p => (kk p.1, p.2)) ws
  | .ins C fs, o => ∃ dx ws, o = .ins C dx ws ∧ RelF K F fs ws
theorem RelO.mono {K : PySem.W.Frag} {F F' : Hp} (e : Same F F') : ∀ {o : DO} {h : HO}, RelO K F o h → RelO K F' o h
  | .lst ds, _, h => by
    obtain ⟨vs, h1, h2⟩ := h
    exact ⟨vs, h1, RelDs.mono e ds vs h2⟩
  | .dic kvs, _, h => by
    obtain ⟨ws, h1, h2⟩ := h
    exact ⟨ws, h1, h2.mono e⟩
  | .ins C fs, _, h => by
    obtain ⟨dx, ws, h1, h2⟩ := h
    exact ⟨dx, ws, h1, h2.mono e⟩
/-- the abstract heap H holds the frozen F and the store S, apart -/
structure SR (K : PySem.W.Frag) (F : Hp) (S : Store) (H : Hp) : Prop where
  fro : Same F H
  obj : ∀ a o, S a = some o → F a = none ∧ ∃ ho, H a = some ho ∧ RelO K F o ho
/-- how F, S, H go on -/
structure Ext (F : Hp) (S : Store) (H : Hp) (F' : Hp) (S' : Store) (H' : Hp) : Prop where
  same : Same F F'
  off : ∀ a o, H a = some o → S a = none → H' a = some o
  newF : ∀ a, F' a ≠ none → F a = none → S a ≠ none ∨ H a = none
  newS : ∀ a, S' a ≠ none → S a ≠ none ∨ H a = none
theorem Ext.refl (F : Hp) (S : Store) (H : Hp) : Ext F S H F S H := ⟨Same.refl F, fun _ _ h _ => h, fun _ h g => absurd g h, fun _ h => .inl h⟩
theorem Ext.trans {F F' F'' : Hp} {S S' S'' : Store} {H H' H'' : Hp} (x : Ext F S H F' S' H') (y : Ext F' S' H' F'' S'' H'') : Ext F S H F'' S'' H'' where
  same := x.same.trans y.same
  off := fun a o h hs => by
    refine y.off a o (x.off a o h hs) ?_
    cases q : S' a with
    | none => rfl
    | some u =>
      rcases x.newS a (by rw [q]; simp) with z | z
      · exact absurd hs z
      · rw [h] at z; cases z
  newF := fun a h g => by
    cases q : F' a with
    | some u => exact x.newF a (by rw [q]; simp) g
    | none =>
      rcases y.newF a h q with z | z
      · exact x.newS a z
      · cases hs : S a with
        | some u => exact .inl (by simp)
        | none =>
          cases hh : H a with
          | none => exact .inr rfl
          | some o => rw [x.off a o hh hs] at z; cases z
  newS := fun a h => by
    rcases y.newS a h with z | z
    · exact x.newS a z
    · cases hs : S a with
      | some u => exact .inl (by simp)
      | none =>
        cases hh : H a with
        | none => exact .inr rfl
        | some o => rw [x.off a o hh hs] at z; cases z
/-- an entry: of a def -/
structure Ent where
  F : Hp
  S : Store
  H : Hp
section
variable {K : PySem.W.Frag} {F : Hp} {S : Store} {H : Hp} {p a : Addr} {ho : HO} {o : DO}
theorem SR.fnone (h : SR K F S H) (e : H p = none) : F p = none := by
  cases q : F p with
  | none => rfl
  | some u => have := h.fro p u q; rw [e] at this; cases this
theorem SR.snone (h : SR K F S H) (e : H p = none) : S p = none := by
  cases q : S p with
  | none => rfl
  | some u => obtain ⟨_, ho, h1, _⟩ := h.obj p u q; rw [e] at h1; cases h1
theorem SR.same_frz (h : SR K F S H) (e : H p = none) : Same F (upd F p ho) := fun b u q => by
  rw [upd_ne]; exact q
  intro z; rw [z, h.fnone e] at q; cases q
/-- a new frozen object -/
theorem SR.frz (h : SR K F S H) (e : H p = none) : SR K (upd F p ho) S (upd H p ho) where
  fro := fun b u q => by
    by_cases z : b = p
    · subst z; rw [upd_same] at q ⊢; exact q
    · rw [upd_ne z] at q ⊢; exact h.fro b u q
  obj := fun b u q => by
    obtain ⟨h1, ho', h2, h3⟩ := h.obj b u q
    have z : b ≠ p := by intro z; rw [z, e] at h2; cases h2
    rw [upd_ne z, upd_ne z]
    exact ⟨h1, ho', h2, h3.mono (h.same_frz e)⟩
theorem SR.ext_frz (h : SR K F S H) (e : H p = none) : Ext F S H (upd F p ho) S (upd H p ho) where
  same := h.same_frz e
  off := fun b u q _ => by
    rw [upd_ne]; exact q
    intro z; rw [z, e] at q; cases q
  newF := fun b q g => by
    by_cases z : b = p
    · subst z; exact .inr e
    · rw [upd_ne z] at q; exact absurd g q
  newS := fun b q => .inl q
/-- a new object of the store -/
theorem SR.box (h : SR K F S H) (e : H p = none) (r : RelO K F o ho) : SR K F (sup S p o) (upd H p ho) where
  fro := fun b u q => by
    rw [upd_ne]; exact h.fro b u q
    intro z; rw [z, h.fnone e] at q; cases q
  obj := fun b u q => by
    by_cases z : b = p
    · subst z; rw [sup_same] at q; cases q
      exact ⟨h.fnone e, ho, upd_same, r⟩
    · rw [sup_ne z] at q; rw [upd_ne z]; exact h.obj b u q
theorem SR.ext_box (h : SR K F S H) (e : H p = none) : Ext F S H F (sup S p o) (upd H p ho) where
  same := Same.refl F
  off := fun b u q _ => by
    rw [upd_ne]; exact q
    intro z; rw [z, e] at q; cases q
  newF := fun b q g => absurd g q
  newS := fun b q => by
    by_cases z : b = p
    · subst z; exact .inr e
    · rw [sup_ne z] at q; exact .inl q
/-- an object of the store is written -/
theorem SR.write {o0 : DO} (h : SR K F S H) (e : S a = some o0) (r : RelO K F o ho) : SR K F (sup S a o) (upd H a ho) where
  fro := fun b u q => by
    rw [upd_ne]; exact h.fro b u q
    intro z; rw [z, (h.obj a o0 e).1] at q; cases q
  obj := fun b u q => by
    by_cases z : b = a
    · subst z; rw [sup_same] at q; cases q
      exact ⟨(h.obj b o0 e).1, ho, upd_same, r⟩
    · rw [sup_ne z] at q; rw [upd_ne z]; exact h.obj b u q
theorem SR.ext_write {o0 : DO} (h : SR K F S H) (e : S a = some o0) : Ext F S H F (sup S a o) (upd H a ho) where
  same := Same.refl F
  off := fun b u q n => by
    rw [upd_ne]; exact q
    intro z; rw [z, e] at n; cases n
  newF := fun b q g => absurd g q
  newS := fun b q => by
    by_cases z : b = a
    · subst z; exact .inl (by rw [e]; simp)
    · rw [sup_ne z] at q; exact .inl q
/-- a list of the store is frozen -/
theorem SR.freeze {ds : List D} (h : SR K F S H) (e : S a = some (.lst ds)) : ∃ F', SR K F' (sdel S a) H ∧ Ext F S H F' (sdel S a) H ∧ RelD K F' (.lst ds) (.ref a) := by
  obtain ⟨h1, ho, h2, vs, rfl, h3⟩ := h.obj a _ e
  have sm : Same F (upd F a (.lst vs)) := fun b u q => by
    rw [upd_ne]; exact q
    intro z; rw [z, h1] at q; cases q
  refine ⟨upd F a (.lst vs), ⟨fun b u q => ?_, fun b u q => ?_⟩, ⟨sm, fun b u q _ => q, fun b q g => ?_, fun b q => ?_⟩, RelD.lst_i upd_same (RelDs.mono sm _ _ h3)⟩
  · by_cases z : b = a
    · subst z; rw [upd_same] at q; cases q; exact h2
    · rw [upd_ne z] at q; exact h.fro b u q
  · unfold sdel at q
    by_cases z : b = a
    · rw [if_pos z] at q; cases q
    · rw [if_neg z] at q
      obtain ⟨k1, ho', k2, k3⟩ := h.obj b u q
      rw [upd_ne z]
      exact ⟨k1, ho', k2, k3.mono sm⟩
  · by_cases z : b = a
    · subst z; exact .inl (by rw [e]; simp)
    · rw [upd_ne z] at q; exact absurd g q
  · unfold sdel at q
    by_cases z : b = a
    · rw [if_pos z] at q; exact absurd rfl q
    · rw [if_neg z] at q; exact .inl q
theorem Ext.laid {o1 : HO} (e : H p = none) : Ext F S H F S (upd H p o1) := by
  refine ⟨Same.refl F, fun b u q _ => ?_, fun _ q g => absurd g q, fun _ q => .inl q⟩
  rw [upd_ne]; exact q
  intro z; rw [z, e] at q; cases q
theorem SR.sub {S' : Store} (h : SR K F S H) (g : Sub S' S) : SR K F S' H := ⟨h.fro, fun a o e => h.obj a o (g a o e)⟩
theorem SR.ext_sub {S' : Store} (g : Sub S' S) : Ext F S H F S' H := ⟨Same.refl F, fun _ _ h _ => h, fun _ q g => absurd g q, fun b q => .inl (by
  cases e : S' b with
  | none => exact absurd e q
  | some u => rw [g b u e]; simp)⟩
theorem SR.lst (h : SR K F S H) {ds : List D} (e : S a = some (.lst ds)) : ∃ vs, H a = some (.lst vs) ∧ RelDs K F ds vs := by
  obtain ⟨_, ho, h2, vs, rfl, h3⟩ := h.obj a _ e
  exact ⟨vs, h2, h3⟩
theorem SR.dic (h : SR K F S H) {kvs : List (DK × D)} (e : S a = some (.dic kvs)) : ∃ ws, H a = some (.dK ws) ∧ RelF K F (kvs.map fun p => (kk p.1, p.2)) ws := by
  obtain ⟨_, ho, h2, vs, rfl, h3⟩ := h.obj a _ e
  exact ⟨vs, h2, h3⟩
theorem SR.ins (h : SR K F S H) {C : Addr} {fs : List (Str × D)} (e : S a = some (.ins C fs)) : ∃ dx ws, H a = some (.ins C dx ws) ∧ RelF K F fs ws := by
  obtain ⟨_, ho, h2, dx, vs, rfl, h3⟩ := h.obj a _ e
  exact ⟨dx, vs, h2, h3⟩
end
end DL
namespace DL
open PySem PySem.Spec L2
abbrev Rho := List (Option D)
def RelE (K : PySem.W.Frag) (F : Hp) (ρ : Rho) (σ : St) : Prop := ρ.length = σ.length ∧ ∀ (i : Nat) (d : D), ρ[i]? = some (some d) → ∃ v, σ[i]? = some (some v) ∧ RelD K F d v
abbrev TD := Rho → Store → (D → Store → Prop) → Prop
abbrev TDs := Rho → Store → (List D → Store → Prop) → Prop
abbrev TDT := Rho → Store → (Bool → Store → Prop) → Prop
structure DEnds where
  nx : Rho → Store → Prop
  rt : D → Store → Prop
  bk : Rho → Store → Prop := fun _ _ => False
  ct : Rho → Store → Prop := fun _ _ => False
abbrev TDS := DEnds → Rho → Store → Prop
/-- where one stands -/
structure At (K : PySem.W.Frag) (F0 : Ent) (F : Hp) (S : Store) (H : Hp) (ρ : Rho) (σ : St) : Prop where
  f0 : Ext F0.F F0.S F0.H F S H
  sr : SR K F S H
  env : RelE K F ρ σ
section
variable {K : PySem.W.Frag} {F0 : Ent} {F F' F'' : Hp} {S S' S'' : Store} {H H' H'' : Hp} {ρ : Rho} {σ : St}
theorem RelE.mono (e : Same F F') (h : RelE K F ρ σ) : RelE K F' ρ σ := ⟨h.1, fun i d q => by
  obtain ⟨v, h1, h2⟩ := h.2 i d q
  exact ⟨v, h1, RelD.mono e d v h2⟩⟩
theorem At.next (a : At K F0 F S H ρ σ) (x : Ext F S H F' S' H') (r : SR K F' S' H') : At K F0 F' S' H' ρ σ := ⟨a.f0.trans x, r, a.env.mono x.same⟩
theorem RelE.set {d : D} {v : V} (h : RelE K F ρ σ) (r : RelD K F d v) (i : Nat) : RelE K F (ρ.set i (some d)) (σ.set i (some v)) := by
  refine ⟨by simpa using h.1, fun j d' q => ?_⟩
  by_cases e : i = j
  · subst e
    have hi : i < ρ.length := by
      rcases Nat.lt_or_ge i ρ.length with z | z
      · exact z
      · rw [List.getElem?_eq_none (by simpa using z)] at q; cases q
    rw [List.getElem?_set_self hi] at q
    have e2 := Option.some.inj (Option.some.inj q)
    subst e2
    exact ⟨v, List.getElem?_set_self (by rw [← h.1]; exact hi), r⟩
  · rw [List.getElem?_set_ne e] at q
    rw [List.getElem?_set_ne e]
    exact h.2 j d' q
theorem RelE.unset (h : RelE K F ρ σ) (i : Nat) (o : Option V) : RelE K F (ρ.set i none) (σ.set i o) := by
  refine ⟨by simpa using h.1, fun j d' q => ?_⟩
  by_cases e : i = j
  · subst e
    rw [List.getElem?_set] at q
    simp at q
  · rw [List.getElem?_set_ne e] at q
    rw [List.getElem?_set_ne e]
    exact h.2 j d' q
end
/-- what follows, told over data -/
def Post (K : PySem.W.Frag) (F : Hp) (S : Store) (H : Hp) (Q' : D → Store → Prop) (Q : VK) : Prop :=
  ∀ v H' F' S' d, Ext F S H F' S' H' → SR K F' S' H' → RelD K F' d v → Q' d S' → Q v H'
def EL (K : PySem.W.Frag) (F0 : Ent) (t : TD) : TE := fun σ H Q => ∃ F S ρ Q', At K F0 F S H ρ σ ∧ t ρ S Q' ∧ Post K F S H Q' Q
def TL (K : PySem.W.Frag) (F0 : Ent) (t : TDT) : TT := fun σ H Q => ∃ F S ρ Q', At K F0 F S H ρ σ ∧ t ρ S Q' ∧ ∀ b H' F' S', Ext F S H F' S' H' → SR K F' S' H' → Q' b S' → Q b H'
def AL (K : PySem.W.Frag) (F0 : Ent) (t : TDs) : TA := fun σ H Q => ∃ F S ρ Q', At K F0 F S H ρ σ ∧ t ρ S Q' ∧ ∀ vs H' F' S' ds, Ext F S H F' S' H' → SR K F' S' H' → RelDs K F' ds vs → Q' ds S' → Q vs H'
def DE (X : Cx) (F0 : Ent) (e : Expr) (t : TD) : Prop := PE X e (EL X.K F0 t)
def DT (X : Cx) (F0 : Ent) (e : Expr) (t : TDT) : Prop := PT X e (TL X.K F0 t)
def DW (X : Cx) (F0 : Ent) (e : Expr) (t : TDT) : Prop := PW X e (TL X.K F0 t)
def DA (X : Cx) (F0 : Ent) (es : List Expr) (t : TDs) : Prop := PA X es (AL X.K F0 t)
theorem PE.weak {X : Cx} {e : Expr} {t t' : TE} (h : PE X e t) (w : ∀ σ H Q, t' σ H Q → t σ H Q) : PE X e t' := ⟨fun pins s σ H Q I q => h.run pins s σ H Q I (w _ _ _ q)⟩
theorem PT.weak {X : Cx} {e : Expr} {t t' : TT} (h : PT X e t) (w : ∀ σ H Q, t' σ H Q → t σ H Q) : PT X e t' := ⟨fun pins s σ H Q I q => h.run pins s σ H Q I (w _ _ _ q)⟩
theorem PW.weak {X : Cx} {e : Expr} {t t' : TT} (h : PW X e t) (w : ∀ σ H Q, t' σ H Q → t σ H Q) : PW X e t' := ⟨fun wh pins s σ H Q I q => h.run wh pins s σ H Q I (w _ _ _ q)⟩
theorem PA.weak {X : Cx} {e : List Expr} {t t' : TA} (h : PA X e t) (w : ∀ σ H Q, t' σ H Q → t σ H Q) : PA X e t' := ⟨fun p pins s σ H Q I q => h.run p pins s σ H Q I (w _ _ _ q)⟩
theorem PS.weak {X : Cx} {e : Stmt} {t t' : TS} (h : PS X e t) (w : ∀ D σ H, t' D σ H → t D σ H) : PS X e t' := ⟨fun pins s σ H D I q => h.run pins s σ H D I (w _ _ _ q)⟩
theorem PSs.weak {X : Cx} {e : List Stmt} {t t' : TS} (h : PSs X e t) (w : ∀ D σ H, t' D σ H → t D σ H) : PSs X e t' := ⟨fun pins s σ H D I q => h.run pins s σ H D I (w _ _ _ q)⟩
section
variable {K : PySem.W.Frag} {F0 : Ent} {F : Hp} {S : Store} {H : Hp} {ρ : Rho} {σ : St} {Q : VK} {Q' : D → Store → Prop} {t : TD}
/-- run a part, go on from where it ends -/
theorem EL.go {R : VK} {Q1 : D → Store → Prop} (a : At K F0 F S H ρ σ) (h : t ρ S Q1) (n : ∀ v H1 F1 S1 d, Ext F S H F1 S1 H1 → At K F0 F1 S1 H1 ρ σ → RelD K F1 d v → Q1 d S1 → R v H1) : EL K F0 t σ H R :=
  ⟨F, S, ρ, Q1, a, h, fun v H1 F1 S1 d x r rd q => n v H1 F1 S1 d x (a.next x r) rd q⟩
theorem TL.go {t : TDT} {R : Bool → Hp → Prop} {Q1 : Bool → Store → Prop} (a : At K F0 F S H ρ σ) (h : t ρ S Q1) (n : ∀ b H1 F1 S1, Ext F S H F1 S1 H1 → At K F0 F1 S1 H1 ρ σ → Q1 b S1 → R b H1) : TL K F0 t σ H R :=
  ⟨F, S, ρ, Q1, a, h, fun v H1 F1 S1 x r q => n v H1 F1 S1 x (a.next x r) q⟩
theorem AL.go {t : TDs} {R : List V → Hp → Prop} {Q1 : List D → Store → Prop} (a : At K F0 F S H ρ σ) (h : t ρ S Q1) (n : ∀ v H1 F1 S1 d, Ext F S H F1 S1 H1 → At K F0 F1 S1 H1 ρ σ → RelDs K F1 d v → Q1 d S1 → R v H1) : AL K F0 t σ H R :=
  ⟨F, S, ρ, Q1, a, h, fun v H1 F1 S1 d x r rd q => n v H1 F1 S1 d x (a.next x r) rd q⟩
theorem Post.of (p : Post K F S H Q' Q) {F1 : Hp} {S1 : Store} {H1 : Hp} (x : Ext F S H F1 S1 H1) {v : V} {d : D} (r : SR K F1 S1 H1) (rd : RelD K F1 d v) (q : Q' d S1) : Q v H1 := p v H1 F1 S1 d x r rd q
theorem Post.ext (p : Post K F S H Q' Q) {F1 : Hp} {S1 : Store} {H1 : Hp} (x : Ext F S H F1 S1 H1) : Post K F1 S1 H1 Q' Q := fun v H' F' S' d y r rd q => p v H' F' S' d (x.trans y) r rd q
end
section
variable {X : Cx} {F0 : Ent} {e a b c : Expr} {es : List Expr} {t ta tb : TD} {pos : Pos}
def tdV (i : Nat) : TD := fun ρ S Q => ∃ d, ρ[i]? = some (some d) ∧ Q d S
def tdC (d : D) : TD := fun _ S Q => Q d S
theorem de_of {x : Str} {i : Nat} (h : PE X (.Name x pos) (tVar i)) : DE X F0 (.Name x pos) (tdV i) := PE.weak h fun σ H Q ⟨F, S, ρ, Q', a, ⟨d, e, q⟩, p⟩ => by
  obtain ⟨v, h1, h2⟩ := a.env.2 i d e
  exact ⟨v, h1, p.of (Ext.refl _ _ _) a.sr h2 q⟩
theorem dv (i : Nat) {x : Str} {pos : Pos} (hN : X.N[i]? = some x := by rfl) (hv : Vis X.env.scope x := by first | exact Or.inl rfl | exact Or.inr (Or.inl rfl) | exact Or.inr (Or.inr rfl)) (hd : (x == ("__debug__" : Str)) = false := by decide)
    (hcd : (x == ("__classdict__" : Str)) = false := by decide) : DE X F0 (.Name x pos) (tdV i) := de_of (pe_var hN hv hd hcd)
/-- a list of the store, read for the last time: from here on it is data -/
def tdZ (i : Nat) : TD := fun ρ S Q => ∃ a ds, ρ[i]? = some (some (.ref a)) ∧ S a = some (.lst ds) ∧ Q (.lst ds) (sdel S a)
theorem dz (i : Nat) {x : Str} {pos : Pos} (hN : X.N[i]? = some x := by rfl) (hv : Vis X.env.scope x := by first | exact Or.inl rfl | exact Or.inr (Or.inl rfl) | exact Or.inr (Or.inr rfl)) (hd : (x == ("__debug__" : Str)) = false := by decide)
    (hcd : (x == ("__classdict__" : Str)) = false := by decide) : DE X F0 (.Name x pos) (tdZ i) := PE.weak (pe_var (i := i) hN hv hd hcd) fun σ H Q ⟨F, S, ρ, Q', a, ⟨p, ds, e, es, q⟩, k⟩ => by
  obtain ⟨v, h1, h2⟩ := a.env.2 i _ e
  obtain rfl := h2.ref_e
  obtain ⟨F', r, x, rd⟩ := a.sr.freeze es
  exact ⟨_, h1, k.of x r rd q⟩
theorem PE.const {v : V} {d : D} (h : PE X e (tC v)) (r : ∀ F, RelD X.K F d v) : DE X F0 e (tdC d) := PE.weak h fun σ H Q ⟨F, S, ρ, Q', a, q, p⟩ => p.of (Ext.refl _ _ _) a.sr (r F) q
theorem de_int {i j} : DE X F0 (.Constant (.int i) j pos) (tdC (.int i)) := PE.const pe_int fun _ => .int_i _
theorem de_bl {i j} : DE X F0 (.Constant (.bool i) j pos) (tdC (.bl i)) := PE.const pe_bl fun _ => .bl_i _
theorem de_non {j} : DE X F0 (.Constant .none j pos) (tdC .non) := PE.const pe_non fun _ => .non_i
theorem de_str {x j} {t : Tx} (h : x = tS t := by first | exact ofString_tx _ | rfl) : DE X F0 (.Constant (.str x) j pos) (tdC (.str t)) := by
  subst h
  exact PE.const pe_str fun _ => .str_i _
/-- a built-in class as a value -/
theorem de_ty {x : Str} {n : String} (hg : Gl X x) (hm : X.mg x = none) (hv : bootBuiltins x = some (.type n)) (hn : x ≠ "__name__" := by decide) (hd : (x == ("__debug__" : Str)) = false := by decide) : DE X F0 (.Name x pos) (tdC (.ty n)) :=
  PE.const (pe_bltn (v := .ty n) hg hm hv rfl hn hd) fun _ => .ty_i _
theorem de_glob {x : Str} {v : V} {u : Value} {d : D} (hg : Gl X x) (hm : X.mg x = some u) (r : RelV v u) (rd : ∀ F, RelD X.K F d v) (hd : (x == ("__debug__" : Str)) = false := by decide) : DE X F0 (.Name x pos) (tdC d) := PE.const (pe_glob hg hm r hd) rd
abbrev DOp := Store → D → D → (D → Store → Prop) → Prop
def OL (K : PySem.W.Frag) (g : DOp) : R2 := fun x y H Q => ∃ F S dx dy Q', SR K F S H ∧ RelD K F dx x ∧ RelD K F dy y ∧ g S dx dy Q' ∧ Post K F S H Q' Q
def tdOp (g : DOp) (ta tb : TD) : TD := fun ρ S Q => ta ρ S fun x S1 => tb ρ S1 fun y S2 => g S2 x y Q
theorem op_go {g : DOp} {σ : St} {H : Hp} {Q : VK} (h : EL X.K F0 (tdOp g ta tb) σ H Q) : tOp (OL X.K g) (EL X.K F0 ta) (EL X.K F0 tb) σ H Q := by
  obtain ⟨F, S, ρ, Q', a, h, p⟩ := h
  refine EL.go a h fun v1 H1 F1 S1 d1 x1 a1 r1 q1 => ?_
  refine EL.go a1 q1 fun v2 H2 F2 S2 d2 x2 a2 r2 q2 => ?_
  exact ⟨F2, S2, d1, d2, Q', a2.sr, RelD.mono x2.same _ _ r1, r2, q2, p.ext (x1.trans x2)⟩
theorem de_op {op : Operator} {g : DOp} (ho : OpR X (binaryOp op) (OL X.K g)) (ha : DE X F0 a ta) (hb : DE X F0 b tb) : DE X F0 (.BinOp a op b pos) (tdOp g ta tb) := PE.weak (pe_op ho ha hb) fun _ _ _ h => op_go h
theorem de_cmp {op : CmpOp} {g : DOp} (ho : OpR X (compareOp op) (OL X.K g)) (ha : DE X F0 a ta) (hb : DE X F0 b tb) (hm : behindInMarks op b = false) : DE X F0 (.Compare a [op] [b] pos) (tdOp g ta tb) :=
  PE.weak (pe_cmpR ho ha hb hm) fun _ _ _ h => op_go h
/-- a value as a test -/
def tdB (t : TD) : TDT := fun ρ S Q => t ρ S fun d S' => ∃ k, d = .bl k ∧ Q k S'
theorem dt_cmp {op : CmpOp} {g : DOp} (ho : OpR X (compareOp op) (OL X.K g)) (ha : DE X F0 a ta) (hb : DE X F0 b tb) (hm : behindInMarks op b = false) : DT X F0 (.Compare a [op] [b] pos) (tdB (tdOp g ta tb)) :=
  PT.weak (pt_cmpR ho ha hb hm) fun σ H Q ⟨F, S, ρ, Q', a, h, p⟩ => op_go ⟨F, S, ρ, _, a, h, fun v H' F' S' d x r rd q => by
    obtain ⟨k, rfl, q⟩ := q
    exact ⟨k, rd.bl_e, p k H' F' S' x r q⟩⟩
theorem dt_val (h : DE X F0 e t) (he : ∀ whole, isTrue e X.env whole = (do let v ← whole; standAt e.pos; holding [v] (truthy v)) := by intro _; rfl) : DT X F0 e (tdB t) :=
  PT.weak (pt_val h he) fun σ H Q ⟨F, S, ρ, Q', a, h, p⟩ => ⟨F, S, ρ, _, a, h, fun v H' F' S' d x r rd q => by
    obtain ⟨k, rfl, q⟩ := q
    exact ⟨k, rd.bl_e, p k H' F' S' x r q⟩⟩
variable {A B : TDT} {rest : List Expr}
def tdAnd (t u : TDT) : TDT := fun ρ S Q => t ρ S fun c S1 => if c = true then u ρ S1 Q else Q false S1
def tdOr (t u : TDT) : TDT := fun ρ S Q => t ρ S fun c S1 => if c = true then Q true S1 else u ρ S1 Q
def tdNot (t : TDT) : TDT := fun ρ S Q => t ρ S fun c S1 => Q (!c) S1
theorem dw_and1 (ha : DT X F0 a A) : DW X F0 (.BoolOp .And [a] pos) A := pw_and1 ha
theorem dw_or1 (ha : DT X F0 a A) : DW X F0 (.BoolOp .Or [a] pos) A := pw_or1 ha
theorem DW.pt (h : DW X F0 e A) : DT X F0 e A := PW.pt h
theorem dw_and (ha : DT X F0 a A) (hb : DW X F0 (.BoolOp .And (b :: rest) pos) B) : DW X F0 (.BoolOp .And (a :: b :: rest) pos) (tdAnd A B) :=
  PW.weak (pw_and ha hb) fun σ H Q ⟨F, S, ρ, Q', at0, h, p⟩ => by
    refine TL.go at0 h fun c H1 F1 S1 x1 a1 q1 => ?_
    cases c with
    | true => exact iteT (TL.go a1 q1 fun c H2 F2 S2 x2 a2 q2 => p c H2 F2 S2 (x1.trans x2) a2.sr q2)
    | false => exact iteF (p false H1 F1 S1 x1 a1.sr q1)
theorem dw_or (ha : DT X F0 a A) (hb : DW X F0 (.BoolOp .Or (b :: rest) pos) B) : DW X F0 (.BoolOp .Or (a :: b :: rest) pos) (tdOr A B) :=
  PW.weak (pw_or ha hb) fun σ H Q ⟨F, S, ρ, Q', at0, h, p⟩ => by
    refine TL.go at0 h fun c H1 F1 S1 x1 a1 q1 => ?_
    cases c with
    | false => exact iteF (TL.go a1 q1 fun c H2 F2 S2 x2 a2 q2 => p c H2 F2 S2 (x1.trans x2) a2.sr q2)
    | true => exact iteT (p true H1 F1 S1 x1 a1.sr q1)
theorem dt_not (ha : DT X F0 a A) : DT X F0 (.UnaryOp .Not a pos) (tdNot A) :=
  PT.weak (pt_not ha) fun σ H Q ⟨F, S, ρ, Q', at0, h, p⟩ => TL.go at0 h fun c H1 F1 S1 x1 a1 q1 => p (!c) H1 F1 S1 x1 a1.sr q1
/-- as values: all but the last a bool -/
def tdAndV (ta tb : TD) : TD := fun ρ S Q => ta ρ S fun x S1 => ∃ c, x = .bl c ∧ if c = true then tb ρ S1 Q else Q (.bl false) S1
def tdOrV (ta tb : TD) : TD := fun ρ S Q => ta ρ S fun x S1 => ∃ c, x = .bl c ∧ if c = true then Q (.bl true) S1 else tb ρ S1 Q
def tdNotV (ta : TD) : TD := fun ρ S Q => ta ρ S fun x S1 => ∃ c, x = .bl c ∧ Q (.bl (!c)) S1
theorem de_one {op} (h : DE X F0 a t) : DE X F0 (.BoolOp op [a] pos) t := pe_one h
theorem de_and (ha : DE X F0 a ta) (hb : DE X F0 (.BoolOp .And (b :: rest) pos) tb) : DE X F0 (.BoolOp .And (a :: b :: rest) pos) (tdAndV ta tb) :=
  PE.weak (pe_and ha hb) fun σ H Q ⟨F, S, ρ, Q', at0, h, p⟩ => by
    refine EL.go at0 h fun v H1 F1 S1 d x1 a1 r1 ⟨c, e, q1⟩ => ?_
    subst e
    refine ⟨c, r1.bl_e, ?_⟩
    cases c with
    | true => exact iteT (EL.go a1 q1 fun v2 H2 F2 S2 d2 x2 a2 r2 q2 => p.of (x1.trans x2) a2.sr r2 q2)
    | false => exact iteF (p.of x1 a1.sr (.bl_i _) q1)
theorem de_or (ha : DE X F0 a ta) (hb : DE X F0 (.BoolOp .Or (b :: rest) pos) tb) : DE X F0 (.BoolOp .Or (a :: b :: rest) pos) (tdOrV ta tb) :=
  PE.weak (pe_or ha hb) fun σ H Q ⟨F, S, ρ, Q', at0, h, p⟩ => by
    refine EL.go at0 h fun v H1 F1 S1 d x1 a1 r1 ⟨c, e, q1⟩ => ?_
    subst e
    refine ⟨c, r1.bl_e, ?_⟩
    cases c with
    | false => exact iteF (EL.go a1 q1 fun v2 H2 F2 S2 d2 x2 a2 r2 q2 => p.of (x1.trans x2) a2.sr r2 q2)
    | true => exact iteT (p.of x1 a1.sr (.bl_i _) q1)
theorem de_not (ha : DE X F0 a ta) : DE X F0 (.UnaryOp .Not a pos) (tdNotV ta) :=
  PE.weak (pe_not ha) fun σ H Q ⟨F, S, ρ, Q', at0, h, p⟩ => by
    refine EL.go at0 h fun v H1 F1 S1 d x1 a1 r1 ⟨c, e, q1⟩ => ?_
    subst e
    exact ⟨c, r1.bl_e, p.of x1 a1.sr (.bl_i _) q1⟩
/-- x if c else y -/
def tdIf (c : TDT) (ta tb : TD) : TD := fun ρ S Q => c ρ S fun k S1 => if k = true then ta ρ S1 Q else tb ρ S1 Q
theorem de_if (hc : DT X F0 c A) (ha : DE X F0 a ta) (hb : DE X F0 b tb) : DE X F0 (.IfExp c a b pos) (tdIf A ta tb) :=
  PE.weak (pe_ifExp hc ha hb) fun σ H Q ⟨F, S, ρ, Q', at0, h, p⟩ => by
    refine TL.go at0 h fun c H1 F1 S1 x1 a1 q1 => ?_
    cases c with
    | true => exact iteT (EL.go a1 q1 fun v2 H2 F2 S2 d2 x2 a2 r2 q2 => p.of (x1.trans x2) a2.sr r2 q2)
    | false => exact iteF (EL.go a1 q1 fun v2 H2 F2 S2 d2 x2 a2 r2 q2 => p.of (x1.trans x2) a2.sr r2 q2)
def isNon : D → Bool
  | .non => true
  | _ => false
theorem isNon_rel {K : PySem.W.Frag} {F : Hp} {d : D} {v : V} (r : RelD K F d v) : decide (v = .non) = isNon d := by
  cases d with
  | non => rw [r.non_e]; rfl
  | bl b => rw [r.bl_e]; rfl
  | int i => rw [r.int_e]; rfl
  | str x => rw [r.str_e]; rfl
  | ref a => rw [r.ref_e]; rfl
  | ty a => rw [r.ty_e]; rfl
  | tup ds => obtain ⟨a, vs, rfl, _⟩ := r.tup_e; rfl
  | lst ds => obtain ⟨a, vs, rfl, _⟩ := r.lst_e; rfl
  | scr ds => obtain ⟨a, rfl, _⟩ := r.scr_e; rfl
def tdIsN (ta : TD) : TD := fun ρ S Q => ta ρ S fun x S1 => Q (.bl (isNon x)) S1
def tdNotN (ta : TD) : TD := fun ρ S Q => ta ρ S fun x S1 => Q (.bl (!isNon x)) S1
theorem isN_go {σ : St} {H : Hp} {Q : VK} (h : EL X.K F0 (tdIsN ta) σ H Q) : tIsN (EL X.K F0 ta) σ H Q := by
  obtain ⟨F, S, ρ, Q', at0, h, p⟩ := h
  exact EL.go at0 h fun v H1 F1 S1 d x1 a1 r1 q1 => p.of x1 a1.sr (by rw [isNon_rel r1]; exact .bl_i _) q1
theorem notN_go {σ : St} {H : Hp} {Q : VK} (h : EL X.K F0 (tdNotN ta) σ H Q) : tNotN (EL X.K F0 ta) σ H Q := by
  obtain ⟨F, S, ρ, Q', at0, h, p⟩ := h
  exact EL.go at0 h fun v H1 F1 S1 d x1 a1 r1 q1 => p.of x1 a1.sr (by rw [isNon_rel r1]; exact .bl_i _) q1
theorem de_isN {j p'} (ha : DE X F0 a ta) : DE X F0 (.Compare a [.Is] [.Constant .none j p'] pos) (tdIsN ta) := PE.weak (pe_cmp (pc_isN ha) rfl) fun _ _ _ h => isN_go h
theorem de_notN {j p'} (ha : DE X F0 a ta) : DE X F0 (.Compare a [.IsNot] [.Constant .none j p'] pos) (tdNotN ta) := PE.weak (pe_cmp (pc_notN ha) rfl) fun _ _ _ h => notN_go h
theorem dt_isN {j p'} (ha : DE X F0 a ta) : DT X F0 (.Compare a [.Is] [.Constant .none j p'] pos) (tdB (tdIsN ta)) :=
  PT.weak (pt_cmp (pc_isN ha) rfl) fun σ H Q ⟨F, S, ρ, Q', at0, h, p⟩ => isN_go ⟨F, S, ρ, _, at0, h, fun v H' F' S' d x r rd q => by
    obtain ⟨k, rfl, q⟩ := q
    exact ⟨k, rd.bl_e, p k H' F' S' x r q⟩⟩
theorem dt_notN {j p'} (ha : DE X F0 a ta) : DT X F0 (.Compare a [.IsNot] [.Constant .none j p'] pos) (tdB (tdNotN ta)) :=
  PT.weak (pt_cmp (pc_notN ha) rfl) fun σ H Q ⟨F, S, ρ, Q', at0, h, p⟩ => notN_go ⟨F, S, ρ, _, at0, h, fun v H' F' S' d x r rd q => by
    obtain ⟨k, rfl, q⟩ := q
    exact ⟨k, rd.bl_e, p k H' F' S' x r q⟩⟩
def tdNil : TDs := fun _ S Q => Q [] S
def tdCons (ta : TD) (tr : TDs) : TDs := fun ρ S Q => ta ρ S fun x S1 => tr ρ S1 fun xs S2 => Q (x :: xs) S2
variable {tr : TDs}
theorem da_nil : DA X F0 [] tdNil := PA.weak pa_nil fun σ H Q ⟨F, S, ρ, Q', a, q, p⟩ => p [] H F S [] (Ext.refl _ _ _) a.sr .nil q
theorem da_cons (ha : DE X F0 e t) (hr : DA X F0 es tr) (hs : starEach (e :: es) X.env = (false, eval e X.env) :: starEach es X.env := by rfl) : DA X F0 (e :: es) (tdCons t tr) :=
  PA.weak (pa_cons ha hr hs) fun σ H Q ⟨F, S, ρ, Q', a, q, p⟩ => by
    refine EL.go a q fun v1 H1 F1 S1 d1 x1 a1 r1 q1 => ?_
    refine AL.go a1 q1 fun v2 H2 F2 S2 d2 x2 a2 r2 q2 => ?_
    exact p _ H2 F2 S2 _ (x1.trans x2) a2.sr (.cons (RelD.mono x2.same _ _ r1) r2) q2
def tdTup (t : TDs) : TD := fun ρ S Q => t ρ S fun xs S1 => xs.length ≤ sizeLine ∧ Q (.tup xs) S1
def tdLst (t : TDs) : TD := fun ρ S Q => t ρ S fun xs S1 => xs.length ≤ sizeLine ∧ Q (.lst xs) S1
def tdBox (t : TDs) : TD := fun ρ S Q => t ρ S fun xs S1 => xs.length ≤ sizeLine ∧ ∀ p, S1 p = none → Q (.ref p) (sup S1 p (.lst xs))
theorem de_tup {x1} (h : DA X F0 es tr) : DE X F0 (.Tuple es x1 pos) (tdTup tr) :=
  PE.weak (pe_tup h) fun σ H Q ⟨F, S, ρ, Q', a, q, p⟩ => by
    refine AL.go a q fun vs H1 F1 S1 ds x1 a1 r1 ⟨hl, q1⟩ => ⟨by rw [r1.length]; exact hl, fun pp hp => ?_⟩
    exact p.of (x1.trans (a1.sr.ext_frz hp)) (a1.sr.frz hp) (RelD.tup_i (.of upd_same) (RelDs.mono (a1.sr.same_frz hp) _ _ r1)) q1
theorem de_lst (h : DA X F0 es tr) : DE X F0 (.List es pos) (tdLst tr) :=
  PE.weak (pe_lst h) fun σ H Q ⟨F, S, ρ, Q', a, q, p⟩ => by
    refine AL.go a q fun vs H1 F1 S1 ds x1 a1 r1 ⟨hl, q1⟩ => ⟨by rw [r1.length]; exact hl, fun pp hp => ?_⟩
    exact p.of (x1.trans (a1.sr.ext_frz hp)) (a1.sr.frz hp) (RelD.lst_i upd_same (RelDs.mono (a1.sr.same_frz hp) _ _ r1)) q1
theorem de_box (h : DA X F0 es tr) : DE X F0 (.List es pos) (tdBox tr) :=
  PE.weak (pe_lst h) fun σ H Q ⟨F, S, ρ, Q', a, q, p⟩ => by
    refine AL.go a q fun vs H1 F1 S1 ds x1 a1 r1 ⟨hl, q1⟩ => ⟨by rw [r1.length]; exact hl, fun pp hp => ?_⟩
    exact p.of (x1.trans (a1.sr.ext_box hp)) (a1.sr.box (o := .lst ds) hp ⟨_, rfl, r1⟩) (.ref_i _) (q1 pp (a1.sr.snone hp))
end
end DL
namespace DL
open PySem PySem.Spec L2
theorem OpR.weak {X : Cx} {f : Value → Value → Sem Value} {r r' : R2} (h : OpR X f r) (w : ∀ x y H Q, r' x y H Q → r x y H Q) : OpR X f r' := fun pins s σ H x y v u Q I rx ry q => h pins s σ H x y v u Q I rx ry (w _ _ _ _ q)
theorem OpR.or {X : Cx} {f : Value → Value → Sem Value} {r r' : R2} (h : OpR X f r) (h' : OpR X f r') : OpR X f (fun x y H Q => r x y H Q ∨ r' x y H Q) := fun pins s σ H x y v u Q I rx ry q =>
  q.elim (h pins s σ H x y v u Q I rx ry) (h' pins s σ H x y v u Q I rx ry)
/-- a list of the store, looked at -/
def vwS (S : Store) (a : Addr) : D := match S a with
  | some (.lst ds) => .lst ds
  | _ => .ref a
def vw (S : Store) : D → D
  | .ref a => vwS S a
  | d => d
theorem vw_ref {S : Store} {a : Addr} {ds : List D} (h : S a = some (.lst ds)) : vw S (.ref a) = .lst ds := by
  show vwS S a = _
  unfold vwS; rw [h]
theorem vw_case (S : Store) (d : D) : vw S d = d ∨ ∃ a ds, d = .ref a ∧ S a = some (.lst ds) ∧ vw S d = .lst ds := by
  cases d with
  | ref a =>
    cases h : S a with
    | none => exact .inl (by show vwS S a = _; unfold vwS; rw [h])
    | some o =>
      cases o with
      | lst ds => exact .inr ⟨a, ds, rfl, h, vw_ref h⟩
      | dic _ => exact .inl (by show vwS S a = _; unfold vwS; rw [h])
      | ins _ _ => exact .inl (by show vwS S a = _; unfold vwS; rw [h])
  | _ => exact .inl rfl
section
variable {K : PySem.W.Frag} {F : Hp} {S : Store} {H : Hp} {d : D} {v : V}
theorem vw_lst (h : SR K F S H) (r : RelD K F d v) {ds : List D} (e : vw S d = .lst ds) : ∃ a vs, v = .ref a ∧ H a = some (.lst vs) ∧ RelDs K F ds vs := by
  rcases vw_case S d with q | ⟨a, es, rfl, q1, q2⟩
  · rw [q] at e; subst e
    obtain ⟨a, vs, h1, h2, h3⟩ := r.lst_e
    exact ⟨a, vs, h1, h.fro _ _ h2, h3⟩
  · rw [q2] at e; cases e
    obtain ⟨vs, h1, h2⟩ := h.lst q1
    exact ⟨a, vs, r.ref_e, h1, h2⟩
theorem vw_int (r : RelD K F d v) {i : Int} (e : vw S d = .int i) : v = .int i := by
  rcases vw_case S d with q | ⟨a, es, rfl, q1, q2⟩
  · rw [q] at e; subst e; exact r.int_e
  · rw [q2] at e; cases e
theorem vw_bl (r : RelD K F d v) {i : Bool} (e : vw S d = .bl i) : v = .bl i := by
  rcases vw_case S d with q | ⟨a, es, rfl, q1, q2⟩
  · rw [q] at e; subst e; exact r.bl_e
  · rw [q2] at e; cases e
theorem vw_non (r : RelD K F d v) (e : vw S d = .non) : v = .non := by
  rcases vw_case S d with q | ⟨a, es, rfl, q1, q2⟩
  · rw [q] at e; subst e; exact r.non_e
  · rw [q2] at e; cases e
theorem vw_str (r : RelD K F d v) {t : Tx} (e : vw S d = .str t) : v = .str (tS t) := by
  rcases vw_case S d with q | ⟨a, es, rfl, q1, q2⟩
  · rw [q] at e; subst e; exact r.str_e
  · rw [q2] at e; cases e
theorem vw_tup (h : SR K F S H) (r : RelD K F d v) {ds : List D} (e : vw S d = .tup ds) : ∃ a vs, v = .ref a ∧ SqT K H a vs ∧ RelDs K F ds vs := by
  rcases vw_case S d with q | ⟨a, es, rfl, q1, q2⟩
  · rw [q] at e; subst e
    obtain ⟨a, vs, h1, h2, h3⟩ := r.tup_e
    exact ⟨a, vs, h1, seqT h.fro h2, h3⟩
  · rw [q2] at e; cases e
theorem vw_scr (h : SR K F S H) (r : RelD K F d v) {ns : List Int} (e : vw S d = .scr ns) : ∃ a, v = .ref a ∧ SqL K H a (ns.map V.int) := by
  rcases vw_case S d with q | ⟨a, es, rfl, q1, q2⟩
  · rw [q] at e; subst e
    obtain ⟨a, h1, h2⟩ := r.scr_e
    exact ⟨a, h1, h.fro.seq h2⟩
  · rw [q2] at e; cases e
end
def gAdd : DOp := fun S x y Q => match vw S x, vw S y with
  | .int i, .int j => Q (.int (i + j)) S
  | .str a, .str b => a.length + b.length ≤ sizeLine ∧ Q (.str (a ++ b)) S
  | .lst xs, .lst ys => xs.length + ys.length ≤ sizeLine ∧ Q (.lst (xs ++ ys)) S
  | _, _ => False
section
variable {X : Cx}
theorem od_add : OpR X (binaryOp .Add) (OL X.K gAdd) := by
  refine OpR.weak (OpR.or op_add (OpR.or op_add_str op_cat)) fun x y H Q ⟨F, S, dx, dy, Q', sr, rx, ry, g, p⟩ => ?_
  unfold gAdd at g
  split at g
  · rename_i i j e1 e2
    exact .inl ⟨i, j, vw_int rx e1, vw_int ry e2, p.of (Ext.refl _ _ _) sr (.int_i _) g⟩
  · rename_i a b e1 e2
    refine .inr (.inl ⟨_, _, vw_str rx e1, vw_str ry e2, by rw [tS_length, tS_length]; exact g.1, ?_⟩)
    rw [tS_append]
    exact p.of (Ext.refl _ _ _) sr (.str_i _) g.2
  · rename_i a b e1 e2
    obtain ⟨p1, v1, rfl, h1, k1⟩ := vw_lst sr rx e1
    obtain ⟨p2, v2, rfl, h2, k2⟩ := vw_lst sr ry e2
    refine .inr (.inr ⟨p1, p2, v1, v2, rfl, rfl, h1, h2, by rw [k1.length, k2.length]; exact g.1, fun q hq => ?_⟩)
    exact p.of (sr.ext_frz hq) (sr.frz hq) (RelD.lst_i upd_same (RelDs.mono (sr.same_frz hq) _ _ (k1.append k2))) g.2
  · exact g.elim
def gI (C : Int → Int → Prop) (f : Int → Int → D) : DOp := fun S x y Q => match x, y with
  | .int i, .int j => C i j ∧ Q (f i j) S
  | _, _ => False
theorem od_I {f : Value → Value → Sem Value} {C : Int → Int → Prop} {g : Int → Int → Int} (h : OpR X f (rI C fun i j => .int (g i j))) : OpR X f (OL X.K (gI C fun i j => .int (g i j))) :=
  OpR.weak h fun x y H Q ⟨F, S, dx, dy, Q', sr, rx, ry, q, p⟩ => by
    unfold gI at q
    split at q
    · exact ⟨_, _, rx.int_e, ry.int_e, q.1, p.of (Ext.refl _ _ _) sr (.int_i _) q.2⟩
    · exact q.elim
def gI0 (f : Int → Int → D) : DOp := fun S x y Q => match x, y with
  | .int i, .int j => Q (f i j) S
  | _, _ => False
theorem od_I0 {f : Value → Value → Sem Value} {g : Int → Int → Int} (h : OpR X f (rI0 fun i j => .int (g i j))) : OpR X f (OL X.K (gI0 fun i j => .int (g i j))) :=
  OpR.weak h fun x y H Q ⟨F, S, dx, dy, Q', sr, rx, ry, q, p⟩ => by
    unfold gI0 at q
    split at q
    · exact ⟨_, _, rx.int_e, ry.int_e, p.of (Ext.refl _ _ _) sr (.int_i _) q⟩
    · exact q.elim
abbrev gSub : DOp := gI0 fun i j => .int (i - j)
abbrev gMod : DOp := gI (fun _ j => j ≠ 0) fun i j => .int (i.fmod j)
abbrev gDiv : DOp := gI CDivN fun i j => .int (i.fdiv j)
abbrev gPow : DOp := gI CPow fun i j => .int (i ^ j.toNat)
theorem od_sub : OpR X (binaryOp .Sub) (OL X.K gSub) := od_I0 op_sub
theorem od_mod : OpR X (binaryOp .Mod) (OL X.K gMod) := od_I op_modN
theorem od_div : OpR X (binaryOp .FloorDiv) (OL X.K gDiv) := od_I op_fdivN
theorem od_pow : OpR X (binaryOp .Pow) (OL X.K gPow) := od_I op_pow
/-- texts repeated -/
def repT : Nat → Tx → Tx
  | 0, _ => []
  | n + 1, t => t ++ repT n t
theorem foldl_rep (x : Tx) : ∀ (n : Nat) (acc : Array Nat), (List.replicate n x.toArray).foldl (· ++ ·) acc = acc ++ (repT n x).toArray
  | 0, acc => by simp [repT]
  | n + 1, acc => by
    rw [List.replicate_succ, List.foldl_cons, foldl_rep x n]
    simp [repT]
theorem repT_length (n : Nat) (t : Tx) : (repT n t).length = n * t.length := by
  induction n with
  | zero => simp [repT]
  | succ n ih => simp [repT, ih, Nat.succ_mul, Nat.add_comm]
def gMul : DOp := fun S x y Q => match x, y with
  | .int i, .int j => CMul i j ∧ Q (.int (i * j)) S
  | .str t, .int n => 2 ≤ n ∧ n ≤ 1000 ∧ 1 ≤ t.length ∧ t.length ≤ 1000 ∧ Q (.str (repT n.toNat t)) S
  | _, _ => False
theorem op_mulS : OpR X (binaryOp .Mult) (fun x y H Q => ∃ (t : Tx) (n : Int), x = .str (tS t) ∧ y = .int n ∧ 2 ≤ n ∧ n ≤ 1000 ∧ 1 ≤ t.length ∧ t.length ≤ 1000 ∧ Q (.str (tS (repT n.toNat t))) H) := by
  intro pins s σ H x y v u Q I rx ry ⟨t, n, e1, e2, h2, h3, h4, h5, q⟩
  subst e1; subst e2
  obtain ⟨tk, rfl⟩ := rx
  obtain ⟨tk2, rfl⟩ := ry
  have hlen : (tS t).length = t.length := tS_length t
  have n1 : (n == 1) = false := by simp; omega
  have n2 : ((tS t).length == 0) = false := by rw [hlen]; simp; intro z; rw [z] at h4; simp at h4
  have hm : t.length * n.toNat ≤ 1000 * 1000 := Nat.mul_le_mul h5 (by omega)
  refine P.mul_str (by simp; omega) (fun _ _ => ?_) (fun _ _ => ?_) ?_
  · rw [hlen]
    have : (1000 : Int) ≤ (2 ^ 63 - 1) / n := by
      rw [Int.le_ediv_iff_mul_le (by omega)]; omega
    omega
  · rw [hlen]
    show decide _ = false
    exact decide_eq_false (Nat.not_lt.mpr (Nat.le_trans hm (by decide)))
  · rw [if_neg (by omega), if_neg (by rw [n1, n2]; simp), foldl_rep t n.toNat #[]]
    simp only [Made.post]
    refine ⟨by first | trivial | (simp only [Array.empty_append]; show (repT n.toNat t).toArray.size ≤ _; rw [List.size_toArray, repT_length]; exact Nat.le_trans (by rw [Nat.mul_comm]; exact hm) (by decide)), ?_⟩
    simp only [Array.empty_append]
    exact ⟨.str (tS (repT n.toNat t)), H, I.tok _, ⟨_, rfl⟩, q⟩
theorem od_mul : OpR X (binaryOp .Mult) (OL X.K gMul) := by
  refine OpR.weak (OpR.or op_mul op_mulS) fun x y H Q ⟨F, S, dx, dy, Q', sr, rx, ry, g, p⟩ => ?_
  unfold gMul at g
  split at g
  · exact .inl ⟨_, _, rx.int_e, ry.int_e, g.1, p.of (Ext.refl _ _ _) sr (.int_i _) g.2⟩
  · obtain ⟨h2, h3, h4, h5, g⟩ := g
    exact .inr ⟨_, _, rx.str_e, ry.int_e, h2, h3, h4, h5, p.of (Ext.refl _ _ _) sr (.str_i _) g⟩
  · exact g.elim
mutual
def D.data : D → PyData
  | .non => .none
  | .bl b => .bool b
  | .int i => .int i
  | .str t => .str (tS t)
  | .tup ds => .tuple (D.datas ds)
  | .lst ds => .list (D.datas ds)
  | .scr ns => .list (ns.map PyData.int)
  | .ref _ => .none
  | .ty _ => .none
def D.datas : List D → List PyData
  | [] => []
  | d :: ds => D.data d :: D.datas ds
end
mutual
/-- nothing but data within -/
def D.pure : D → Bool
  | .ref _ => false
  | .ty _ => false
  | .tup ds => D.pures ds
  | .lst ds => D.pures ds
  | _ => true
def D.pures : List D → Bool
  | [] => true
  | d :: ds => D.pure d && D.pures ds
end
section
variable {K : PySem.W.Frag} {F : Hp} {S : Store} {H : Hp}
mutual
theorem RelD.dp (e : Same F H) : ∀ (d : D) (v : V), d.pure = true → RelD K F d v → Dp K H v d.data
  | .non, v, _, r => by rw [r.non_e]; unfold D.data; exact .non
  | .bl b, v, _, r => by rw [r.bl_e]; unfold D.data; exact .bl b
  | .int b, v, _, r => by rw [r.int_e]; unfold D.data; exact .int b
  | .str b, v, _, r => by rw [r.str_e]; unfold D.data; exact .str _
  | .tup ds, v, h, r => by
    unfold D.pure at h
    obtain ⟨a, vs, rfl, h2, h3⟩ := r.tup_e
    unfold D.data
    exact .tup (seqT e h2) (RelDs.dp e ds vs h h3)
  | .lst ds, v, h, r => by
    unfold D.pure at h
    obtain ⟨a, vs, rfl, h2, h3⟩ := r.lst_e
    unfold D.data
    exact .lst (.of (e _ _ h2)) (RelDs.dp e ds vs h h3)
  | .scr ns, v, h, r => by
    obtain ⟨a, rfl, h2⟩ := r.scr_e
    unfold D.data
    refine .lst (e.seq h2) ?_
    clear h2 r
    induction ns with
    | nil => exact .nil
    | cons n ns ih => exact .cons (.int n) (ih h)
  | .ref _, _, h, _ => by unfold D.pure at h; cases h
  | .ty _, _, h, _ => by unfold D.pure at h; cases h
theorem RelDs.dp (e : Same F H) : ∀ (ds : List D) (vs : List V), D.pures ds = true → RelDs K F ds vs → DpAll K H vs (D.datas ds)
  | [], vs, _, r => by rw [r.nil_inv]; unfold D.datas; exact .nil
  | d :: ds, vs, h, r => by
    unfold D.pures at h
    obtain ⟨h1, h2⟩ := Bool.and_eq_true_iff.mp h
    obtain ⟨v, q, rfl, h3, h4⟩ := r.cons_inv
    unfold D.datas
    exact .cons (RelD.dp e d v h1 h3) (RelDs.dp e ds q h2 h4)
end
theorem vw_dp (sr : SR K F S H) {d : D} {v : V} (r : RelD K F d v) (hp : (vw S d).pure = true) : Dp K H v (vw S d).data := by
  rcases vw_case S d with q | ⟨a, es, rfl, q1, q2⟩
  · rw [q] at hp ⊢; exact RelD.dp sr.fro d v hp r
  · rw [q2] at hp ⊢
    obtain ⟨vs, h1, h2⟩ := sr.lst q1
    rw [r.ref_e]
    unfold D.pure at hp
    unfold D.data
    exact .lst (.of h1) (RelDs.dp sr.fro es vs hp h2)
end
/-- == of two things that are no lists and no tuples; none: not told -/
def eqS : D → D → Option Bool
  | .non, .non => some true
  | .non, .int _ => some false | .int _, .non => some false
  | .non, .bl _ => some false | .bl _, .non => some false
  | .non, .str _ => some false | .str _, .non => some false
  | .int i, .int j => some (decide (i = j))
  | .bl i, .bl j => some (decide (i = j))
  | .str i, .str j => some (decide (i = j))
  | .int _, .str _ => some false | .str _, .int _ => some false
  | .bl _, .str _ => some false | .str _, .bl _ => some false
  | _, _ => none
theorem eqS_scal {K : PySem.W.Frag} {F : Hp} {x y : D} {v u : V} {b : Bool} (h : eqS x y = some b) (rx : RelD K F x v) (ry : RelD K F y u) : scal v u = true ∧ decide (v = u) = b := by
  unfold eqS at h
  split at h <;> first
    | (cases h; done)
    | (have hb := Option.some.inj h; subst hb
       first
        | (rw [rx.non_e, ry.non_e]; exact ⟨rfl, by simp⟩)
        | (rw [rx.non_e, ry.int_e]; exact ⟨rfl, by simp⟩)
        | (rw [rx.int_e, ry.non_e]; exact ⟨rfl, by simp⟩)
        | (rw [rx.non_e, ry.bl_e]; exact ⟨rfl, by simp⟩)
        | (rw [rx.bl_e, ry.non_e]; exact ⟨rfl, by simp⟩)
        | (rw [rx.non_e, ry.str_e]; exact ⟨rfl, by simp⟩)
        | (rw [rx.str_e, ry.non_e]; exact ⟨rfl, by simp⟩)
        | (rw [rx.int_e, ry.int_e]; exact ⟨rfl, by simp⟩)
        | (rw [rx.bl_e, ry.bl_e]; exact ⟨rfl, by simp⟩)
        | (rw [rx.str_e, ry.str_e]; exact ⟨rfl, by simp⟩)
        | (rw [rx.int_e, ry.str_e]; exact ⟨rfl, by simp⟩)
        | (rw [rx.str_e, ry.int_e]; exact ⟨rfl, by simp⟩)
        | (rw [rx.bl_e, ry.str_e]; exact ⟨rfl, by simp⟩)
        | (rw [rx.str_e, ry.bl_e]; exact ⟨rfl, by simp⟩))
def gEq (f : Bool → Bool) : DOp := fun S x y Q => match eqS x y with
  | some b => Q (.bl (f b)) S
  | none => (vw S x).pure = true ∧ (vw S y).pure = true ∧ SeqAt.shaped (vw S x).data = true ∧ SeqAt.shaped (vw S y).data = true ∧ Q (.bl (f (PyData.eqv (vw S x).data (vw S y).data))) S
theorem od_eq (hu : X.A.units + 64 < cLine) : OpR X (compareOp .Eq) (OL X.K (gEq id)) := by
  refine OpR.weak (OpR.or op_eq (op_eqD hu)) fun x y H Q ⟨F, S, dx, dy, Q', sr, rx, ry, g, p⟩ => ?_
  unfold gEq at g
  split at g
  · rename_i b e
    obtain ⟨h1, h2⟩ := eqS_scal e rx ry
    exact .inl ⟨h1, p.of (Ext.refl _ _ _) sr (by rw [h2]; exact .bl_i _) g⟩
  · obtain ⟨h1, h2, h3, h4, g⟩ := g
    exact .inr ⟨_, _, vw_dp sr rx h1, vw_dp sr ry h2, h3, h4, p.of (Ext.refl _ _ _) sr (.bl_i _) g⟩
theorem od_ne (hu : X.A.units + 64 < cLine) : OpR X (compareOp .NotEq) (OL X.K (gEq not)) := by
  refine OpR.weak (OpR.or op_ne (op_neD hu)) fun x y H Q ⟨F, S, dx, dy, Q', sr, rx, ry, g, p⟩ => ?_
  unfold gEq at g
  split at g
  · rename_i b e
    obtain ⟨h1, h2⟩ := eqS_scal e rx ry
    exact .inl ⟨h1, p.of (Ext.refl _ _ _) sr (by rw [h2]; exact .bl_i _) g⟩
  · obtain ⟨h1, h2, h3, h4, g⟩ := g
    exact .inr ⟨_, _, vw_dp sr rx h1, vw_dp sr ry h2, h3, h4, p.of (Ext.refl _ _ _) sr (.bl_i _) g⟩
/-- order of ints -/
def gOrd (f : Int → Int → Bool) : DOp := fun S x y Q => match x, y with
  | .int i, .int j => Q (.bl (f i j)) S
  | _, _ => False
theorem od_ord {op : CmpOp} {f : Int → Int → Bool} (h : OpR X (compareOp op) (rI0 fun i j => .bl (f i j))) : OpR X (compareOp op) (OL X.K (gOrd f)) :=
  OpR.weak h fun x y H Q ⟨F, S, dx, dy, Q', sr, rx, ry, q, p⟩ => by
    unfold gOrd at q
    split at q
    · exact ⟨_, _, rx.int_e, ry.int_e, p.of (Ext.refl _ _ _) sr (.bl_i _) q⟩
    · exact q.elim
/-- in: a sign in a text; a flat thing in a list or tuple of flat things -/
def flatD : D → Bool
  | .non => true | .bl _ => true | .int _ => true | .str _ => true
  | _ => false
def eqF : D → D → Bool
  | .non, .non => true
  | .bl a, .bl b => a == b
  | .bl a, .int b => (if a then 1 else 0) == b
  | .int a, .bl b => a == (if b then 1 else 0)
  | .int a, .int b => a == b
  | .str a, .str b => a == b
  | _, _ => false
theorem flat_rel {K : PySem.W.Frag} {F : Hp} {x : D} {v : V} (h : flatD x = true) (r : RelD K F x v) : flatV v = true := by
  cases x <;> first
    | (cases h; done)
    | (rw [r.non_e]; rfl) | (rw [r.bl_e]; rfl) | (rw [r.int_e]; rfl) | (rw [r.str_e]; rfl)
theorem tS_beq (a b : Tx) : (tS a == tS b) = (a == b) := by
  rw [Bool.eq_iff_iff]
  simp
theorem eqF_rel {K : PySem.W.Frag} {F : Hp} {x y : D} {v u : V} (h : flatD x = true) (g : flatD y = true) (r : RelD K F x v) (q : RelD K F y u) : eqV v u = eqF x y := by
  cases x <;> first
    | (cases h; done)
    | (cases y <;> first
        | (cases g; done)
        | (first
            | rw [r.non_e] | rw [r.bl_e] | rw [r.int_e] | rw [r.str_e]
           first
            | rw [q.non_e] | rw [q.bl_e] | rw [q.int_e] | rw [q.str_e]
           first | rfl | exact tS_beq _ _))
def gIn (f : Bool → Bool) : DOp := fun S x y Q => match x, vw S y with
  | .str t, .str z => ∃ c, t = [c] ∧ Q (.bl (f (decide (c ∈ z)))) S
  | x, .lst ds => flatD x = true ∧ ds.all flatD = true ∧ Q (.bl (f (ds.any fun y => eqF y x))) S
  | x, .tup ds => flatD x = true ∧ ds.all flatD = true ∧ Q (.bl (f (ds.any fun y => eqF y x))) S
  | _, _ => False
theorem any_rel {K : PySem.W.Frag} {F : Hp} {x : D} {v : V} (h : flatD x = true) (r : RelD K F x v) : ∀ {ds : List D} {vs : List V}, ds.all flatD = true → RelDs K F ds vs → vs.all flatV = true ∧ inV v vs = ds.any fun y => eqF y x
  | [], _, _, q => by rw [q.nil_inv]; exact ⟨rfl, rfl⟩
  | d :: ds, _, hd, q => by
    obtain ⟨w, vs, rfl, h1, h2⟩ := q.cons_inv
    rw [List.all_cons, Bool.and_eq_true] at hd
    obtain ⟨k1, k2⟩ := any_rel h r hd.2 h2
    refine ⟨by rw [List.all_cons, k1, flat_rel hd.1 h1]; rfl, ?_⟩
    show (List.any (w :: vs) fun y => eqV y v) = _
    rw [List.any_cons, List.any_cons, eqF_rel hd.1 h h1 r]
    rw [show (vs.any fun y => eqV y v) = inV v vs from rfl, k2]
theorem in_case {F : Hp} {S : Store} {H : Hp} {dx dy : D} {x y : V} {Q : VK} {Q' : D → Store → Prop} {f : Bool → Bool} (sr : SR X.K F S H) (rx : RelD X.K F dx x) (ry : RelD X.K F dy y) (g : gIn f S dx dy Q') (p : Post X.K F S H Q' Q) :
    (∃ (c : Nat) (z : Str), x = .str ⟨#[c]⟩ ∧ y = .str z ∧ Q (.bl (f (decide (c ∈ z.cps.toList)))) H) ∨
    ∃ a xs, y = .ref a ∧ (SqL X.K H a xs ∨ SqT X.K H a xs) ∧ flatV x = true ∧ xs.all flatV = true ∧ Q (.bl (f (inV x xs))) H := by
  unfold gIn at g
  split at g
  · rename_i t z e
    obtain ⟨c, rfl, g⟩ := g
    refine .inl ⟨c, tS z, rx.str_e, vw_str ry e, ?_⟩
    exact p.of (Ext.refl _ _ _) sr (.bl_i _) (by simpa using g)
  · rename_i e
    obtain ⟨h1, h2, g⟩ := g
    obtain ⟨a, vs, rfl, k1, k2⟩ := vw_lst sr ry e
    obtain ⟨k3, k4⟩ := any_rel h1 rx h2 k2
    exact .inr ⟨a, vs, rfl, .inl (.of k1), flat_rel h1 rx, k3, p.of (Ext.refl _ _ _) sr (by rw [k4]; exact .bl_i _) g⟩
  · rename_i e
    obtain ⟨h1, h2, g⟩ := g
    obtain ⟨a, vs, rfl, k1, k2⟩ := vw_tup sr ry e
    obtain ⟨k3, k4⟩ := any_rel h1 rx h2 k2
    exact .inr ⟨a, vs, rfl, .inr k1, flat_rel h1 rx, k3, p.of (Ext.refl _ _ _) sr (by rw [k4]; exact .bl_i _) g⟩
  · exact g.elim
theorem od_in : OpR X (compareOp .In) (OL X.K (gIn id)) := by
  refine OpR.weak (OpR.or op_in_sign op_in_seq) fun x y H Q ⟨F, S, dx, dy, Q', sr, rx, ry, g, p⟩ => ?_
  rcases in_case sr rx ry g p with ⟨c, z, h1, h2, h3⟩ | ⟨a, xs, h1, h2, h3, h4, h5⟩
  · exact .inl ⟨c, z, h1, h2, h3⟩
  · exact .inr ⟨a, xs, h1, h2, h3, h4, h5⟩
theorem od_nin : OpR X (compareOp .NotIn) (OL X.K (gIn not)) := by
  refine OpR.weak (OpR.or op_notIn_sign op_notIn_seq) fun x y H Q ⟨F, S, dx, dy, Q', sr, rx, ry, g, p⟩ => ?_
  rcases in_case sr rx ry g p with ⟨c, z, h1, h2, h3⟩ | ⟨a, xs, h1, h2, h3, h4, h5⟩
  · exact .inl ⟨c, z, h1, h2, h3⟩
  · exact .inr ⟨a, xs, h1, h2, h3, h4, h5⟩
end
end DL
namespace DL
open PySem PySem.Spec L2
theorem IxR.weak {X : Cx} {r r' : R2} (h : IxR X r) (w : ∀ x y H Q, r' x y H Q → r x y H Q) : IxR X r' := fun va sl pins s σ H x y v u Q I rx ry q => h va sl pins s σ H x y v u Q I rx ry (w _ _ _ _ q)
def ixP (S : Store) (x y : D) : Option D := match vw S x, y with
  | .tup ds, .int i => atI ds i
  | .lst ds, .int i => atI ds i
  | .scr ns, .int i => (atI ns i).map D.int
  | .str t, .int i => if t.length ≤ sizeLine then (atI t i).map fun c => .str [c] else none
  | _, _ => none
def gIx : DOp := fun S x y Q => ∃ d, ixP S x y = some d ∧ Q d S
theorem atI_rel {K : PySem.W.Frag} {F : Hp} {ds : List D} {vs : List V} {i : Int} {d : D} (r : RelDs K F ds vs) (h : atI ds i = some d) : ∃ v, atI vs i = some v ∧ RelD K F d v := by
  unfold atI at h ⊢
  rw [r.length]
  cases q : ixN ds.length i with
  | none => rw [q] at h; cases h
  | some j =>
    rw [q] at h
    exact r.get (show ds[j]? = some d from h)
theorem atI_map {α β : Type} (f : α → β) (xs : List α) (i : Int) : atI (xs.map f) i = (atI xs i).map f := by
  unfold atI
  rw [List.length_map]
  cases ixN xs.length i with
  | none => rfl
  | some j => exact List.getElem?_map
section
variable {X : Cx} {F0 : Ent} {e a b c lo hi : Expr} {es : List Expr} {t ta tb : TD} {tr : TDs} {pos p2 : Pos}
theorem ox_ix : IxR X (OL X.K gIx) := by
  refine IxR.weak (IxR.or (ix_list (X := X)) (IxR.or (ix_tup (X := X)) ix_str)) fun x y H Q ⟨F, S, dx, dy, Q', sr, rx, ry, g, p⟩ => ?_
  obtain ⟨d, g, q⟩ := g
  unfold ixP at g
  split at g
  · rename_i ds i e
    obtain ⟨a, vs, rfl, h1, h2⟩ := vw_tup sr rx e
    obtain ⟨v, h3, h4⟩ := atI_rel h2 g
    exact .inr (.inl ⟨a, vs, _, v, rfl, ry.int_e, h1, h3, p.of (Ext.refl _ _ _) sr h4 q⟩)
  · rename_i ds i e
    obtain ⟨a, vs, rfl, h1, h2⟩ := vw_lst sr rx e
    obtain ⟨v, h3, h4⟩ := atI_rel h2 g
    exact .inl ⟨a, vs, _, v, rfl, ry.int_e, .of h1, h3, p.of (Ext.refl _ _ _) sr h4 q⟩
  · rename_i ds i e
    obtain ⟨a, rfl, h1⟩ := vw_scr sr rx e
    cases h : atI ds i with
    | none => rw [h] at g; cases g
    | some n =>
      rw [h] at g; cases g
      exact .inl ⟨a, _, _, .int n, rfl, ry.int_e, h1, by rw [atI_map, h]; rfl, p.of (Ext.refl _ _ _) sr (.int_i _) q⟩
  · rename_i t i e
    split at g
    · rename_i hl
      cases h : atI t i with
      | none => rw [h] at g; cases g
      | some n =>
        rw [h] at g; cases g
        exact .inr (.inr ⟨tS t, i, n, vw_str rx e, ry.int_e, by rw [tS_length]; exact hl, by simpa using h, p.of (Ext.refl _ _ _) sr (.str_i _) q⟩)
    · cases g
  · cases g
theorem de_ix (ha : DE X F0 a ta) (hb : DE X F0 b tb) (hs : PlainIx b := by exact fun _ _ => rfl) : DE X F0 (.Subscript a b pos) (tdOp gIx ta tb) := PE.weak (pe_ix ox_ix ha hb hs) fun _ _ _ h => op_go h
abbrev TDO := Rho → Store → (Option Int → Store → Prop) → Prop
def OLo (K : PySem.W.Frag) (F0 : Ent) (t : TDO) : TO := fun σ H Q => ∃ F S ρ Q', At K F0 F S H ρ σ ∧ t ρ S Q' ∧ ∀ o H' F' S', Ext F S H F' S' H' → SR K F' S' H' → Q' o S' → Q o H'
def DO' (X : Cx) (F0 : Ent) (e : Option Expr) (t : TDO) : Prop := PO X e (OLo X.K F0 t)
def tdNoP : TDO := fun _ S Q => Q none S
def tdP (t : TD) : TDO := fun ρ S Q => t ρ S fun x S1 => match x with
  | .int i => Q (some i) S1
  | _ => False
theorem PO.weak {e : Option Expr} {t t' : TO} (h : PO X e t) (w : ∀ σ H Q, t' σ H Q → t σ H Q) : PO X e t' := ⟨fun pins s σ H Q I q => h.run pins s σ H Q I (w _ _ _ q)⟩
theorem do_none : DO' X F0 none tdNoP := PO.weak po_none fun σ H Q ⟨F, S, ρ, Q', a, q, p⟩ => p none H F S (Ext.refl _ _ _) a.sr q
theorem do_some (h : DE X F0 e t) : DO' X F0 (some e) (tdP t) := PO.weak (po_some h) fun σ H Q ⟨F, S, ρ, Q', a, q, p⟩ => by
  refine EL.go a q fun v1 H1 F1 S1 d1 x1 a1 r1 q1 => ?_
  split at q1
  · exact ⟨_, r1.int_e, p _ H1 F1 S1 x1 a1.sr q1⟩
  · exact q1.elim
/-- a part of a list by places -/
def cutL {α : Type} (xs : List α) (lo hi : Option Int) : List α := (xs.drop (HT.sIx xs.length 0 lo)).take (HT.sIx xs.length xs.length hi - HT.sIx xs.length 0 lo)
theorem cutL_rel {K : PySem.W.Frag} {F : Hp} {ds : List D} {vs : List V} (r : RelDs K F ds vs) (lo hi : Option Int) : RelDs K F (cutL ds lo hi) (cutV vs lo hi) := by
  unfold cutL cutV
  rw [r.length]
  exact (r.drop _).take _
def gSl (S : Store) (x : D) (lo hi : Option Int) (Q : D → Store → Prop) : Prop := match vw S x with
  | .str t => t.length ≤ sizeLine ∧ Q (.str (cutL t lo hi)) S
  | .lst ds => Q (.lst (cutL ds lo hi)) S
  | .tup ds => ¬ (HT.sIx ds.length 0 lo = 0 ∧ HT.sIx ds.length ds.length hi = ds.length) ∧ Q (.tup (cutL ds lo hi)) S
  | _ => False
def tdSl (ta : TD) (tl th : TDO) : TD := fun ρ S Q => ta ρ S fun x S1 => tl ρ S1 fun lo S2 => th ρ S2 fun hi S3 => gSl S3 x lo hi Q
theorem de_sl {tl th : TDO} {lo hi : Option Expr} (ha : DE X F0 a ta) (hl : DO' X F0 lo tl) (hh : DO' X F0 hi th) : DE X F0 (.Subscript a (.Slice lo hi none p2) pos) (tdSl ta tl th) :=
  PE.weak (pe_slice (SlR.or sl_str (SlR.or sl_list sl_tup)) ha hl hh) fun σ H Q ⟨F, S, ρ, Q', at0, q, p⟩ => by
    refine EL.go at0 q fun v H1 F1 S1 d x1 a1 r1 q1 => ?_
    refine ⟨F1, S1, ρ, _, a1, q1, fun l H2 F2 S2 x2 s2 q2 => ?_⟩
    have a2 := a1.next x2 s2
    refine ⟨F2, S2, ρ, _, a2, q2, fun u H3 F3 S3 x3 s3 q3 => ?_⟩
    have x13 := (x1.trans x2).trans x3
    have r3 := RelD.mono x3.same _ _ (RelD.mono x2.same _ _ r1)
    unfold gSl at q3
    split at q3
    · rename_i t e
      refine .inl ⟨tS t, vw_str r3 e, by rw [tS_length]; exact q3.1, ?_⟩
      have ec : cutS (tS t) l u = tS (cutL t l u) := by
        unfold cutS cutL
        rw [tS_length]
      rw [ec]
      exact p.of x13 s3 (.str_i _) q3.2
    · rename_i ds e
      obtain ⟨b, vs, rfl, h1, h2⟩ := vw_lst s3 r3 e
      refine .inr (.inl ⟨b, vs, rfl, .of h1, fun z hz => ?_⟩)
      exact p.of (x13.trans (s3.ext_frz hz)) (s3.frz hz) (RelD.lst_i upd_same (RelDs.mono (s3.same_frz hz) _ _ (cutL_rel h2 _ _))) q3
    · rename_i ds e
      obtain ⟨b, vs, rfl, h1, h2⟩ := vw_tup s3 r3 e
      refine .inr (.inr ⟨b, vs, rfl, h1, by rw [h2.length]; exact q3.1, fun z hz => ?_⟩)
      exact p.of (x13.trans (s3.ext_frz hz)) (s3.frz hz) (RelD.tup_i (.of upd_same) (RelDs.mono (s3.same_frz hz) _ _ (cutL_rel h2 _ _))) q3.2
    · exact q3.elim
abbrev DCall := Store → List D → (D → Store → Prop) → Prop
def CL (K : PySem.W.Frag) (g : DCall) : List V → Hp → VK → Prop := fun xs H Q => ∃ F S ds Q', SR K F S H ∧ RelDs K F ds xs ∧ g S ds Q' ∧ Post K F S H Q' Q
theorem CallR.weak {f : Value} {r r' : List V → Hp → VK → Prop} (h : CallR X f r) (w : ∀ xs H Q, r' xs H Q → r xs H Q) : CallR X f r' := fun pins s σ H xs us Q I rx q => h pins s σ H xs us Q I rx (w _ _ _ q)
def tdCB (g : DCall) (t : TDs) : TD := fun ρ S Q => t ρ S fun ds S1 => g S1 ds Q
theorem cb_go {g : DCall} {σ : L2.St} {H : Hp} {Q : VK} (h : EL X.K F0 (tdCB g tr) σ H Q) : tCB (CL X.K g) (AL X.K F0 tr) σ H Q := by
  obtain ⟨F, S, ρ, Q', a, h, p⟩ := h
  exact AL.go a h fun v1 H1 F1 S1 d1 x1 a1 r1 q1 => ⟨F1, S1, d1, Q', a1.sr, r1, q1, p.ext x1⟩
theorem de_cB {x : Str} {id : String} {g : DCall} {p : Pos} (hc : CallR X (.builtin id) (CL X.K g)) (hg : Gl X x) (hm : X.mg x = none) (hv : bootBuiltins x = some (.builtin id)) (ha : DA X F0 (e :: es) tr) (hn : x ≠ "__name__" := by decide) (hdb : (x == ("__debug__" : Str)) = false := by decide)
    (he : starEach (e :: es) X.env = (false, eval e X.env) :: starEach es X.env := by rfl) (hpl : (backTo pos (starEach es X.env)).any (·.1) = false := by rfl) : DE X F0 (.Call (.Name x p) (e :: es) [] pos) (tdCB g tr) :=
  PE.weak (pe_callB hc hg hm hv ha hn hdb he hpl) fun _ _ _ h => cb_go h
theorem de_cT {x : Str} {T : String} {g : DCall} {p : Pos} (hc : CallR X (.type T) (CL X.K g)) (hg : Gl X x) (hm : X.mg x = none) (hv : bootBuiltins x = some (.type T)) (ha : DA X F0 (e :: es) tr) (hn : x ≠ "__name__" := by decide) (hdb : (x == ("__debug__" : Str)) = false := by decide)
    (he : starEach (e :: es) X.env = (false, eval e X.env) :: starEach es X.env := by rfl) (hpl : (backTo pos (starEach es X.env)).any (·.1) = false := by rfl) : DE X F0 (.Call (.Name x p) (e :: es) [] pos) (tdCB g tr) :=
  PE.weak (pe_callTy hc hg hm hv ha hn hdb he hpl) fun _ _ _ h => cb_go h
theorem rds1 {K : PySem.W.Frag} {F : Hp} {d : D} {vs : List V} (h : RelDs K F [d] vs) : ∃ v, vs = [v] ∧ RelD K F d v := by
  obtain ⟨v, r, rfl, h1, h2⟩ := h.cons_inv
  rw [h2.nil_inv]
  exact ⟨v, rfl, h1⟩
theorem rds2 {K : PySem.W.Frag} {F : Hp} {d d' : D} {vs : List V} (h : RelDs K F [d, d'] vs) : ∃ v w, vs = [v, w] ∧ RelD K F d v ∧ RelD K F d' w := by
  obtain ⟨v, r, rfl, h1, h2⟩ := h.cons_inv
  obtain ⟨w, rfl, h3⟩ := rds1 h2
  exact ⟨v, w, rfl, h1, h3⟩
/-- len -/
def gLen : DCall := fun S ds Q => match ds with
  | [x] => match vw S x with
    | .str t => t.length ≤ sizeLine ∧ Q (.int t.length) S
    | .lst ds => Q (.int ds.length) S
    | .tup ds => Q (.int ds.length) S
    | .scr ds => Q (.int ds.length) S
    | _ => False
  | _ => False
theorem oc_len : CallR X (.builtin "len") (CL X.K gLen) := CallR.weak call_len fun xs H Q ⟨F, S, ds, Q', sr, r, g, p⟩ => by
  unfold gLen at g
  split at g
  · rename_i x
    obtain ⟨v, rfl, rv⟩ := rds1 r
    split at g
    · rename_i t e
      refine ⟨v, t.length, rfl, ?_, p.of (Ext.refl _ _ _) sr (.int_i _) g.2⟩
      rw [vw_str rv e]
      exact ⟨by rw [tS_length]; exact g.1, (tS_length t).symm⟩
    · rename_i t e
      obtain ⟨a, vs, rfl, h1, h2⟩ := vw_lst sr rv e
      exact ⟨_, t.length, rfl, .inl ⟨vs, .of h1, h2.length.symm⟩, p.of (Ext.refl _ _ _) sr (.int_i _) g⟩
    · rename_i t e
      obtain ⟨a, vs, rfl, h1, h2⟩ := vw_tup sr rv e
      exact ⟨_, t.length, rfl, .inr ⟨vs, h1, h2.length.symm⟩, p.of (Ext.refl _ _ _) sr (.int_i _) g⟩
    · rename_i t e
      obtain ⟨a, rfl, h1⟩ := vw_scr sr rv e
      exact ⟨_, t.length, rfl, .inl ⟨_, h1, (List.length_map _).symm⟩, p.of (Ext.refl _ _ _) sr (.int_i _) g⟩
    · exact g.elim
  · exact g.elim
/-- int -/
def gInt : DCall := fun S ds Q => match ds with
  | [.int i] => Q (.int i) S
  | [.bl k] => Q (.int (if k then 1 else 0)) S
  | _ => False
theorem oc_int : CallR X (.type "int") (CL X.K gInt) := CallR.weak call_int1 fun xs H Q ⟨F, S, ds, Q', sr, r, g, p⟩ => by
  unfold gInt at g
  split at g
  · obtain ⟨v, rfl, rv⟩ := rds1 r
    exact .inl ⟨_, by rw [rv.int_e], p.of (Ext.refl _ _ _) sr (.int_i _) g⟩
  · obtain ⟨v, rfl, rv⟩ := rds1 r
    exact .inr ⟨_, by rw [rv.bl_e], p.of (Ext.refl _ _ _) sr (.int_i _) g⟩
  · exact g.elim
/-- list(..): a new list, as data -/
def gList : DCall := fun S ds Q => match ds with
  | [x] => match vw S x with
    | .lst ds => Q (.lst ds) S
    | .tup ds => Q (.lst ds) S
    | .scr ns => Q (.lst (ns.map D.int)) S
    | _ => False
  | _ => False
theorem oc_list : CallR X (.type "list") (CL X.K gList) := CallR.weak call_list_of fun xs H Q ⟨F, S, ds, Q', sr, r, g, p⟩ => by
  unfold gList at g
  split at g
  · rename_i x
    obtain ⟨v, rfl, rv⟩ := rds1 r
    split at g
    · rename_i t e
      obtain ⟨a, vs, rfl, h1, h2⟩ := vw_lst sr rv e
      exact ⟨a, vs, rfl, .inl (.of h1), fun l hl => p.of (sr.ext_frz hl) (sr.frz hl) (RelD.lst_i upd_same (RelDs.mono (sr.same_frz hl) _ _ h2)) g⟩
    · rename_i t e
      obtain ⟨a, vs, rfl, h1, h2⟩ := vw_tup sr rv e
      exact ⟨a, vs, rfl, .inr h1, fun l hl => p.of (sr.ext_frz hl) (sr.frz hl) (RelD.lst_i upd_same (RelDs.mono (sr.same_frz hl) _ _ h2)) g⟩
    · rename_i t e
      obtain ⟨a, rfl, h1⟩ := vw_scr sr rv e
      exact ⟨a, _, rfl, .inl h1, fun l hl => p.of (sr.ext_frz hl) (sr.frz hl) (RelD.lst_i upd_same (RelDs.ints t)) g⟩
    · exact g.elim
  · exact g.elim
/-- max of a list of ints -/
def intsD : List D → Option (List Int)
  | [] => some []
  | .int i :: ds => (intsD ds).map (i :: ·)
  | _ => none
theorem intsD_map : ∀ {ds : List D} {ns : List Int}, intsD ds = some ns → ds = ns.map D.int
  | [], ns, h => by cases h; rfl
  | .int i :: ds, ns, h => by
    unfold intsD at h
    cases q : intsD ds with
    | none => rw [q] at h; cases h
    | some ms => rw [q] at h; cases h; rw [intsD_map q]; rfl
  | .non :: ds, ns, h => by cases h
  | .bl _ :: ds, ns, h => by cases h
  | .str _ :: ds, ns, h => by cases h
  | .tup _ :: ds, ns, h => by cases h
  | .lst _ :: ds, ns, h => by cases h
  | .scr _ :: ds, ns, h => by cases h
  | .ref _ :: ds, ns, h => by cases h
  | .ty _ :: ds, ns, h => by cases h
theorem intsD_of (ns : List Int) : intsD (ns.map D.int) = some ns := by
  induction ns with
  | nil => rfl
  | cons n ns ih => show (intsD (ns.map D.int)).map (n :: ·) = _; rw [ih]; rfl
theorem ints_rel {K : PySem.W.Frag} {F : Hp} : ∀ {ns : List Int} {vs : List V}, RelDs K F (ns.map D.int) vs → vs = ns.map V.int
  | [], _, h => h.nil_inv
  | n :: ns, _, h => by
    obtain ⟨v, r, rfl, h1, h2⟩ := h.cons_inv
    rw [h1.int_e, ints_rel h2]; rfl
def maxL : List Int → Int
  | [] => 0
  | [n] => n
  | n :: m :: ns => max n (maxL (m :: ns))
theorem maxL_mem : ∀ (n : Int) (ns : List Int), maxL (n :: ns) ∈ n :: ns ∧ ∀ y ∈ n :: ns, y ≤ maxL (n :: ns)
  | n, [] => ⟨by simp [maxL], fun y hy => by simp at hy; subst hy; simp [maxL]⟩
  | n, m :: ns => by
    obtain ⟨h1, h2⟩ := maxL_mem m ns
    have e : maxL (n :: m :: ns) = max n (maxL (m :: ns)) := rfl
    constructor
    · rw [e]
      by_cases h : n ≤ maxL (m :: ns)
      · rw [Int.max_eq_right h]; exact List.mem_cons_of_mem _ h1
      · rw [Int.max_eq_left (by omega)]; exact List.mem_cons_self
    · intro y hy
      rw [e]
      rcases List.mem_cons.mp hy with rfl | hy
      · exact Int.le_max_left _ _
      · exact Int.le_trans (h2 y hy) (Int.le_max_right _ _)
theorem maxL_unique {ns : List Int} {m : Int} (h : m ∈ ns) (g : ∀ y ∈ ns, y ≤ m) : maxL ns = m := by
  cases ns with
  | nil => cases h
  | cons n ns =>
    obtain ⟨h1, h2⟩ := maxL_mem n ns
    have := h2 m h
    have := g _ h1
    omega
def gMax : DCall := fun S ds Q => match ds with
  | [x] => match vw S x with
    | .lst ds => ∃ ns, intsD ds = some ns ∧ 0 < ns.length ∧ Q (.int (maxL ns)) S
    | _ => False
  | _ => False
theorem oc_max (hc : X.calm = true) : CallR X (.builtin "max") (CL X.K gMax) := CallR.weak (cr_max hc) fun xs H Q ⟨F, S, ds, Q', sr, r, g, p⟩ => by
  unfold gMax at g
  split at g
  · obtain ⟨v, rfl, rv⟩ := rds1 r
    split at g
    · rename_i t e
      obtain ⟨ns, h0, hn, g⟩ := g
      obtain ⟨a, vs, rfl, h1, h2⟩ := vw_lst sr rv e
      rw [intsD_map h0] at h2
      rw [ints_rel h2] at h1
      refine ⟨a, ns, rfl, .of h1, hn, fun m hm hle => ?_⟩
      rw [← maxL_unique hm hle]
      exact p.of (Ext.refl _ _ _) sr (.int_i _) g
    · exact g.elim
  · exact g.elim
/-- isinstance with a built-in class -/
def tyD : D → Option String
  | .non => some "NoneType" | .bl _ => some "bool" | .int _ => some "int" | .str _ => some "str" | .tup _ => some "tuple" | .lst _ => some "list" | .scr _ => some "list"
  | _ => none
def gIsi : DCall := fun S ds Q => match ds with
  | [x, .ty T] => ∃ U b, tyD (vw S x) = some U ∧ kitB U T = some b ∧ Q (.bl b) S
  | _ => False
theorem vw_ty {K : PySem.W.Frag} {F : Hp} {S : Store} {H : Hp} {d : D} {v : V} {U : String} (sr : SR K F S H) (r : RelD K F d v) (h : tyD (vw S d) = some U) : TyX K H v (.type U) := by
  cases e : vw S d with
  | non => rw [e] at h; cases h; rw [vw_non r e]; exact .base .non
  | bl b => rw [e] at h; cases h; rw [vw_bl r e]; exact .base (.bl _)
  | int i => rw [e] at h; cases h; rw [vw_int r e]; exact .base (.int _)
  | str t => rw [e] at h; cases h; rw [vw_str r e]; exact .base (.str _)
  | lst ds => rw [e] at h; cases h; obtain ⟨a, vs, rfl, h1, _⟩ := vw_lst sr r e; exact .base (.lst h1)
  | tup ds =>
    rw [e] at h; cases h
    obtain ⟨a, vs, rfl, h1, _⟩ := vw_tup sr r e
    rcases h1 with (h1 | ⟨o, h1⟩) | ⟨o, its, n, h1, h2, _⟩
    · exact .base (.tup h1)
    · exact .fTuple h1
    · exact .kTuple h1 h2
  | scr ns =>
    rw [e] at h; cases h
    obtain ⟨a, rfl, h1⟩ := vw_scr sr r e
    rcases h1 with (h1 | ⟨o, h1⟩) | ⟨o, its, n, h1, h2, _⟩
    · exact .base (.lst h1)
    · exact .base (.frz h1)
    · exact .kList h1 h2
  | ref a => rw [e] at h; cases h
  | ty n => rw [e] at h; cases h
theorem oc_isi : CallR X (.builtin "isinstance") (CL X.K gIsi) := CallR.weak call_isi fun xs H Q ⟨F, S, ds, Q', sr, r, g, p⟩ => by
  unfold gIsi at g
  split at g
  · rename_i x T
    obtain ⟨U, b, h1, h2, g⟩ := g
    obtain ⟨v, w, rfl, rv, rw'⟩ := rds2 r
    exact ⟨v, w, .type U, .type T, b, rfl, by rw [rw'.ty_e]; exact .ty T, vw_ty sr rv h1, kit_ty h2, p.of (Ext.refl _ _ _) sr (.bl_i _) g⟩
  · exact g.elim
/-- str(n) -/
def gStr : DCall := fun S ds Q => match ds with
  | [.int i] => i.natAbs.log2 < 1920 ∧ Q (.str (tx (toString i))) S
  | _ => False
theorem oc_str : CallR X (.type "str") (CL X.K gStr) := CallR.weak call_str_int fun xs H Q ⟨F, S, ds, Q', sr, r, g, p⟩ => by
  unfold gStr at g
  split at g
  · rename_i i
    obtain ⟨v, rfl, rv⟩ := rds1 r
    refine ⟨i, by rw [rv.int_e], g.1, ?_⟩
    have e : ((toString i : String) : Str) = tS (tx (toString i)) := ofString_tx _
    exact p.of (Ext.refl _ _ _) sr (by show RelD _ _ _ (V.str ((toString i : String) : Str)); rw [e]; exact .str_i _) g.2
  · exact g.elim
def tdApp (to te : TD) : TD := fun ρ S Q => to ρ S fun x S1 => (∃ a ds, x = .ref a ∧ S1 a = some (.lst ds)) ∧ te ρ S1 fun y S2 => ∃ a ds, x = .ref a ∧ S2 a = some (.lst ds) ∧ ds.length < sizeLine ∧ Q .non (sup S2 a (.lst (ds ++ [y])))
theorem de_app {apos cpos : Pos} (ho : DE X F0 a ta) (he : DE X F0 e t)
    (hbase : attributeBase a "append" X.env (eval a X.env) = eval a X.env := by rfl)
    (hfew : ((backTo cpos (starEach [e] X.env)).all (fun x => !x.1) && (backToKw cpos (keywordEach [] X.env)).all (fun x => x.1.isSome)
      && decide ([e].length + ([] : List Keyword).length + (if ([] : List Keyword).isEmpty then 0 else 1) < 30)) = true := by rfl)
    (hline : (apos.endLine == cpos.line) = true := by rfl) (hs : starEach [e] X.env = (false, eval e X.env) :: starEach [] X.env := by rfl) :
    DE X F0 (.Call (.Attribute a "append" apos) [e] [] cpos) (tdApp ta t) :=
  PE.weak (pe_bm PySem.F.plainAttrs_list PySem.F.slot_list_append PySem.F.type_list_append mt_append ho (da_cons he da_nil hs) hbase hfew hline hs rfl) fun σ H Q ⟨F, S, ρ, Q', at0, h, p⟩ => by
    refine EL.go at0 h fun v H1 F1 S1 d x1 a1 r1 ⟨⟨b, ds, e1, e2⟩, q1⟩ => ?_
    subst e1
    obtain ⟨vs, h1, h2⟩ := a1.sr.lst e2
    rw [r1.ref_e]
    refine ⟨.inl ⟨rfl, vs, .of h1⟩, ?_⟩
    refine AL.go (Q1 := fun ds S2 => ∃ y, ds = [y] ∧ ∃ a ds, D.ref b = .ref a ∧ S2 a = some (.lst ds) ∧ ds.length < sizeLine ∧ Q' .non (sup S2 a (.lst (ds ++ [y])))) a1 ?_ fun ws H2 F2 S2 ys x2 a2 r2 q2 => ?_
    · show t ρ S1 fun y S2 => _
      have : (fun (y : D) (S2 : Store) => ∃ a ds, D.ref b = .ref a ∧ S2 a = some (.lst ds) ∧ ds.length < sizeLine ∧ Q' .non (sup S2 a (.lst (ds ++ [y])))) = fun y S2 => tdNil ρ S2 fun xs S3 => ∃ z, y :: xs = [z] ∧ ∃ a ds, D.ref b = .ref a ∧ S3 a = some (.lst ds) ∧ ds.length < sizeLine ∧ Q' .non (sup S3 a (.lst (ds ++ [z]))) := by
        funext y S2
        refine propext ⟨fun h => ⟨y, rfl, h⟩, fun ⟨z, hz, h⟩ => ?_⟩
        cases hz
        exact h
      rw [← this]
      exact q1
    · obtain ⟨y, rfl, a', es, e3, e4, hl, q3⟩ := q2
      cases e3
      obtain ⟨w, rfl, rw'⟩ := rds1 r2
      obtain ⟨us, k1, k2⟩ := a2.sr.lst e4
      refine ⟨b, us, w, rfl, rfl, k1, by rw [k2.length]; exact hl, ?_⟩
      exact p.of ((x1.trans x2).trans (a2.sr.ext_write e4)) (a2.sr.write (o := .lst _) e4 ⟨_, rfl, k2.append (.cons rw' .nil)⟩) .non_i q3
/-- sep.join(a list of texts) -/
def txsD : List D → Option (List Tx)
  | [] => some []
  | .str i :: ds => (txsD ds).map (i :: ·)
  | _ => none
theorem txsD_map : ∀ {ds : List D} {ns : List Tx}, txsD ds = some ns → ds = ns.map D.str
  | [], ns, h => by cases h; rfl
  | .str i :: ds, ns, h => by
    unfold txsD at h
    cases q : txsD ds with
    | none => rw [q] at h; cases h
    | some ms => rw [q] at h; cases h; rw [txsD_map q]; rfl
  | .non :: ds, ns, h => by cases h
  | .bl _ :: ds, ns, h => by cases h
  | .int _ :: ds, ns, h => by cases h
  | .tup _ :: ds, ns, h => by cases h
  | .lst _ :: ds, ns, h => by cases h
  | .scr _ :: ds, ns, h => by cases h
  | .ref _ :: ds, ns, h => by cases h
  | .ty _ :: ds, ns, h => by cases h
theorem txsD_of (ns : List Tx) : txsD (ns.map D.str) = some ns := by
  induction ns with
  | nil => rfl
  | cons n ns ih => show (txsD (ns.map D.str)).map (n :: ·) = _; rw [ih]; rfl
theorem txs_rel {K : PySem.W.Frag} {F : Hp} : ∀ {ns : List Tx} {vs : List V}, RelDs K F (ns.map D.str) vs → vs = (ns.map tS).map V.str
  | [], _, h => h.nil_inv
  | n :: ns, _, h => by
    obtain ⟨v, r, rfl, h1, h2⟩ := h.cons_inv
    rw [h1.str_e, txs_rel h2]; rfl
def joinT (s : Tx) : List Tx → Tx
  | [] => []
  | [t] => t
  | t :: u :: ts => t ++ s ++ joinT s (u :: ts)
def gJoin (S : Store) (x y : D) (Q : D → Store → Prop) : Prop := match x, vw S y with
  | .str s, .lst ds => ∃ ts, txsD ds = some ts ∧ (ts.map (·.length)).sum + ts.length * s.length ≤ 16777216 ∧ Q (.str (joinT s ts)) S
  | _, _ => False
end
end DL
namespace DL
open PySem PySem.Spec L2
theorem join_glued (s : Tx) : ∀ ts : List Tx, Str.join (tS s) (ts.map tS) = tS (joinT s ts)
  | [] => rfl
  | [t] => rfl
  | t :: u :: ts => by
    have ih := join_glued s (u :: ts)
    show tS t ++ tS s ++ Str.join (tS s) ((u :: ts).map tS) = _
    rw [ih, tS_append, tS_append]; rfl
section
variable {X : Cx} {F0 : Ent} {e a b c lo hi : Expr} {es : List Expr} {t ta tb tv : TD} {tr : TDs} {pos pos' p2 : Pos}
def tdJoin (ta tb : TD) : TD := fun ρ S Q => ta ρ S fun x S1 => (∃ s, x = .str s) ∧ tb ρ S1 fun y S2 => gJoin S2 x y Q
theorem de_join {apos : Pos} (ho : DE X F0 a ta) (he : DE X F0 e tb)
    (hs : starEach [e] X.env = [(false, eval e X.env)] := by rfl) (hbase : attributeBase a "join" X.env (eval a X.env) = eval a X.env := by rfl) (hline : (apos.endLine == pos.line) = true := by rfl) :
    DE X F0 (.Call (.Attribute a "join" apos) [e] [] pos) (tdJoin ta tb) :=
  PE.weak (pe_join ho he hs hbase hline) fun σ H Q ⟨F, S, ρ, Q', at0, h, p⟩ => by
    refine EL.go at0 h fun v H1 F1 S1 d x1 a1 r1 ⟨⟨s, e1⟩, q1⟩ => ?_
    subst e1
    refine ⟨⟨_, r1.str_e⟩, ?_⟩
    refine EL.go a1 q1 fun v2 H2 F2 S2 d2 x2 a2 r2 q2 => ?_
    unfold gJoin at q2
    split at q2
    · rename_i s' ds e1 e2
      cases e1
      obtain ⟨ts, h1, h2, q2⟩ := q2
      obtain ⟨b, vs, rfl, k1, k2⟩ := vw_lst a2.sr r2 e2
      rw [txsD_map h1] at k2
      rw [txs_rel k2] at k1
      refine ⟨tS s, b, ts.map tS, r1.str_e, rfl, .inl (.of k1), ?_, ?_⟩
      · rw [List.map_map, List.length_map, tS_length]
        rw [show (List.map ((fun x => x.length) ∘ tS) ts) = ts.map (·.length) from List.map_congr_left fun x _ => tS_length x]
        exact h2
      · show Q (.str (Builtin.Str.glued (tS s) (ts.map tS))) H2
        rw [StrLaws.glued_eq_join, join_glued]
        exact p.of (x1.trans x2) a2.sr (.str_i _) q2
    · exact q2.elim
def tdFld (ta : TD) (f : Str) : TD := fun ρ S Q => ta ρ S fun x S1 => ∃ a C fs d, x = .ref a ∧ S1 a = some (.ins C fs) ∧ fs.lookup f = some d ∧ Q d S1
/-- classes whose attributes are plain, and the names that they don't bind -/
structure Plain (K : PySem.W.Frag) (f : Str) (C : Addr) : Prop where
  cl : Cls K C
  no : NoAttr K C f
def tdFldC (K : PySem.W.Frag) (ta : TD) (f : Str) : TD := fun ρ S Q => ta ρ S fun x S1 => ∃ a C fs d, x = .ref a ∧ S1 a = some (.ins C fs) ∧ Plain K f C ∧ fs.lookup f = some d ∧ Q d S1
theorem de_fld {f : Str} (he : DE X F0 e t) (hb : attributeBase e f X.env (eval e X.env) = eval e X.env := by rfl) : DE X F0 (.Attribute e f pos) (tdFldC X.K t f) :=
  PE.weak (pe_fld he hb) fun σ H Q ⟨F, S, ρ, Q', at0, h, p⟩ => by
    refine EL.go at0 h fun v H1 F1 S1 d x1 a1 r1 ⟨b, C, fs, d', e1, e2, pl, l, q1⟩ => ?_
    subst e1
    obtain ⟨dx, ws, h1, h2⟩ := a1.sr.ins e2
    obtain ⟨w, l1, l2⟩ := h2.lookup l
    exact ⟨b, C, dx, ws, w, r1.ref_e, h1, pl.cl, pl.no, l1, p.of x1 a1.sr l2 q1⟩
def SPost (K : PySem.W.Frag) (F : Hp) (S : Store) (H : Hp) (D' : DEnds) (D : Ends) : Prop :=
  (∀ σ' H' F' S' ρ', Ext F S H F' S' H' → SR K F' S' H' → RelE K F' ρ' σ' → D'.nx ρ' S' → D.nx σ' H') ∧
  (∀ v H' F' S' d, Ext F S H F' S' H' → SR K F' S' H' → RelD K F' d v → D'.rt d S' → D.rt v H') ∧
  (∀ σ' H' F' S' ρ', Ext F S H F' S' H' → SR K F' S' H' → RelE K F' ρ' σ' → D'.bk ρ' S' → D.bk σ' H') ∧
  (∀ σ' H' F' S' ρ', Ext F S H F' S' H' → SR K F' S' H' → RelE K F' ρ' σ' → D'.ct ρ' S' → D.ct σ' H')
theorem SPost.ext {K : PySem.W.Frag} {F F1 : Hp} {S S1 : Store} {H H1 : Hp} {D' : DEnds} {D : Ends} (p : SPost K F S H D' D) (x : Ext F S H F1 S1 H1) : SPost K F1 S1 H1 D' D :=
  ⟨fun _ _ _ _ _ y => p.1 _ _ _ _ _ (x.trans y), fun _ _ _ _ _ y => p.2.1 _ _ _ _ _ (x.trans y), fun _ _ _ _ _ y => p.2.2.1 _ _ _ _ _ (x.trans y), fun _ _ _ _ _ y => p.2.2.2 _ _ _ _ _ (x.trans y)⟩
def SL (K : PySem.W.Frag) (F0 : Ent) (t : TDS) : TS := fun D σ H => ∃ F S ρ D', At K F0 F S H ρ σ ∧ t D' ρ S ∧ SPost K F S H D' D
def DS (X : Cx) (F0 : Ent) (st : Stmt) (t : TDS) : Prop := PS X st (SL X.K F0 t)
def DSs (X : Cx) (F0 : Ent) (st : List Stmt) (t : TDS) : Prop := PSs X st (SL X.K F0 t)
variable {st : Stmt} {rest : List Stmt} {u v : TDS}
theorem SPost.nx {K : PySem.W.Frag} {F : Hp} {S : Store} {H : Hp} {D' : DEnds} {D : Ends} (p : SPost K F S H D' D) {F0 : Ent} {F1 : Hp} {S1 : Store} {H1 : Hp} {ρ : Rho} {σ : L2.St} (x : Ext F S H F1 S1 H1) (a : At K F0 F1 S1 H1 ρ σ) (q : D'.nx ρ S1) : D.nx σ H1 := p.1 _ _ _ _ _ x a.sr a.env q
def tdNext : TDS := fun D ρ S => D.nx ρ S
def tdSeq (t u : TDS) : TDS := fun D ρ S => t { D with nx := u D } ρ S
theorem dss_nil : DSs X F0 [] tdNext := PSs.weak pss_nil fun D σ H ⟨F, S, ρ, D', a, h, p⟩ => p.nx (Ext.refl _ _ _) a h
theorem dss_cons (h1 : DS X F0 st u) (h2 : DSs X F0 rest v) : DSs X F0 (st :: rest) (tdSeq u v) :=
  PSs.weak (pss_cons h1 h2) fun D σ H ⟨F, S, ρ, D', a, h, p⟩ =>
    ⟨F, S, ρ, _, a, h, fun σ' H' F' S' ρ' x r ev q => ⟨F', S', ρ', D', ⟨a.f0.trans x, r, ev⟩, q, p.ext x⟩, p.2.1, p.2.2.1, p.2.2.2⟩
theorem dss_one (h1 : DS X F0 st u) : DSs X F0 [st] u := pss_one h1
theorem dss_never : DSs X F0 rest fun _ _ _ => False := PSs.weak pss_never fun D σ H ⟨F, S, ρ, D', a, h, p⟩ => h.elim
def tdBreak : TDS := fun D ρ S => D.bk ρ S
def tdCont : TDS := fun D ρ S => D.ct ρ S
theorem ds_pass : DS X F0 (.Pass pos) tdNext := PS.weak ps_pass fun D σ H ⟨F, S, ρ, D', a, h, p⟩ => p.nx (Ext.refl _ _ _) a h
theorem ds_break : DS X F0 (.Break pos) tdBreak := PS.weak ps_break fun D σ H ⟨F, S, ρ, D', a, h, p⟩ => p.2.2.1 _ _ _ _ _ (Ext.refl _ _ _) a.sr a.env h
theorem ds_cont : DS X F0 (.Continue pos) tdCont := PS.weak ps_continue fun D σ H ⟨F, S, ρ, D', a, h, p⟩ => p.2.2.2 _ _ _ _ _ (Ext.refl _ _ _) a.sr a.env h
def tdDrop (t : TD) : TDS := fun D ρ S => t ρ S fun _ S1 => D.nx ρ S1
theorem ds_expr (he : DE X F0 e t) (hs : swapsWith e none pos.line X.env = pure false := by rfl) : DS X F0 (.Expr e pos) (tdDrop t) :=
  PS.weak (ps_expr he hs) fun D σ H ⟨F, S, ρ, D', a, h, p⟩ => EL.go a h fun v H1 F1 S1 d x1 a1 r1 q1 => p.nx x1 a1 q1
def tdRet (t : TD) : TDS := fun D ρ S => t ρ S D.rt
theorem ds_ret (he : DE X F0 e t) : DS X F0 (.Return (some e) pos) (tdRet t) :=
  PS.weak (ps_ret he) fun D σ H ⟨F, S, ρ, D', a, h, p⟩ => EL.go a h fun v H1 F1 S1 d x1 a1 r1 q1 => p.2.1 _ _ _ _ _ x1 a1.sr r1 q1
def tdRetN : TDS := fun D _ S => D.rt .non S
theorem ds_retN : DS X F0 (.Return none pos) tdRetN :=
  PS.weak ps_retN fun D σ H ⟨F, S, ρ, D', a, h, p⟩ => p.2.1 _ _ _ _ _ (Ext.refl _ _ _) a.sr .non_i h
def tdIfS (c : TDT) (t u : TDS) : TDS := fun D ρ S => c ρ S fun b S1 => if b = true then t D ρ S1 else u D ρ S1
theorem ds_if {c : Expr} {A B : List Stmt} {tc : TDT} (hc : DT X F0 c tc) (ha : DSs X F0 A u) (hb : DSs X F0 B v) : DS X F0 (.If c A B pos) (tdIfS tc u v) :=
  PS.weak (ps_if hc ha hb) fun D σ H ⟨F, S, ρ, D', a, h, p⟩ => by
    refine TL.go a h fun c H1 F1 S1 x1 a1 q1 => ?_
    cases c with
    | true => exact iteT ⟨F1, S1, ρ, D', a1, q1, p.ext x1⟩
    | false => exact iteF ⟨F1, S1, ρ, D', a1, q1, p.ext x1⟩
abbrev TDG := D → Rho → Store → (Rho → Store → Prop) → Prop
abbrev TDGs := List D → Rho → Store → (Rho → Store → Prop) → Prop
def GL (K : PySem.W.Frag) (F0 : Ent) (g : TDG) : TG := fun v σ H Q => ∃ F S ρ d Q', At K F0 F S H ρ σ ∧ RelD K F d v ∧ g d ρ S Q' ∧ ∀ σ' H' F' S' ρ', Ext F S H F' S' H' → SR K F' S' H' → RelE K F' ρ' σ' → Q' ρ' S' → Q σ' H'
def GLs (K : PySem.W.Frag) (F0 : Ent) (g : TDGs) : TGs := fun v σ H Q => ∃ F S ρ d Q', At K F0 F S H ρ σ ∧ RelDs K F d v ∧ g d ρ S Q' ∧ ∀ σ' H' F' S' ρ', Ext F S H F' S' H' → SR K F' S' H' → RelE K F' ρ' σ' → Q' ρ' S' → Q σ' H'
def DG (X : Cx) (F0 : Ent) (tg : Expr) (g : TDG) : Prop := PG X tg (GL X.K F0 g)
def DGs (X : Cx) (F0 : Ent) (tg : List Expr) (g : TDGs) : Prop := PGs X tg (GLs X.K F0 g)
theorem PG.weak {tg : Expr} {g g' : TG} (h : PG X tg g) (w : ∀ v σ H Q, g' v σ H Q → g v σ H Q) : PG X tg g' := ⟨fun pins s σ H v u Q I r q => h.run pins s σ H v u Q I r (w _ _ _ _ q)⟩
theorem PGs.weak {tg : List Expr} {g g' : TGs} (h : PGs X tg g) (w : ∀ v σ H Q, g' v σ H Q → g v σ H Q) : PGs X tg g' := ⟨fun pins s σ H v u Q I r q => h.run pins s σ H v u Q I r (w _ _ _ _ q)⟩
def gdName (i : Nat) : TDG := fun d ρ S Q => Q (ρ.set i (some d)) S
theorem dg_name (i : Nat) {x : Str} (hN : X.N.Nodup) (hi : X.N[i]? = some x := by rfl) (hx : Loc X.env.scope x := by first | exact Or.inl rfl | exact Or.inr rfl) (hf : X.fn x = true ∨ X.env.scope.names.lookup x = some .local := by first | exact .inl rfl | exact .inr rfl | assumption) : DG X F0 (.Name x pos) (gdName i) :=
  PG.weak (pg_name (i := i) hN hi hx hf) fun v σ H Q ⟨F, S, ρ, d, Q', a, r, g, p⟩ => p _ _ _ _ _ (Ext.refl _ _ _) a.sr (a.env.set r i) g
def gdNil : TDGs := fun ds ρ S Q => ds = [] ∧ Q ρ S
def gdCons (g : TDG) (gs : TDGs) : TDGs := fun ds ρ S Q => ∃ d r, ds = d :: r ∧ g d ρ S fun ρ1 S1 => gs r ρ1 S1 Q
theorem dgs_nil : DGs X F0 [] gdNil := PGs.weak pgs_nil fun v σ H Q ⟨F, S, ρ, d, Q', a, r, ⟨g1, g2⟩, p⟩ => by
  subst g1
  exact ⟨r.nil_inv, p _ _ _ _ _ (Ext.refl _ _ _) a.sr a.env g2⟩
theorem dgs_cons {g : TDG} {gs : TDGs} (h1 : DG X F0 e g) (h2 : DGs X F0 es gs) (hs : (assignEach (e :: es) X.env).map (·.2) = assign e X.env :: (assignEach es X.env).map (·.2) := by rfl) : DGs X F0 (e :: es) (gdCons g gs) :=
  PGs.weak (pgs_cons h1 h2 hs) fun v σ H Q ⟨F, S, ρ, ds, Q', a, r, ⟨d, dr, g1, g2⟩, p⟩ => by
    subst g1
    obtain ⟨w, ws, rfl, k1, k2⟩ := r.cons_inv
    refine ⟨w, ws, rfl, F, S, ρ, d, _, a, k1, g2, fun σ' H' F' S' ρ' x sr ev q => ?_⟩
    exact ⟨F', S', ρ', dr, Q', ⟨a.f0.trans x, sr, ev⟩, RelDs.mono x.same _ _ k2, q, fun σ2 H2 F2 S2 ρ2 y => p _ _ _ _ _ (x.trans y)⟩
def gdTup (n : Nat) (gs : TDGs) : TDG := fun d ρ S Q => ∃ ds, d = .tup ds ∧ ds.length = n ∧ gs ds ρ S Q
theorem dg_tup {k : Nat} {gs : TDGs} {n : Nat} (hc : X.calm = true) (h : DGs X F0 es gs) (hn : (assignEach es X.env).length = n := by rfl) (hst : (assignEach es X.env).findIdx? (·.1) = none := by rfl) : DG X F0 (.Tuple es k pos) (gdTup n gs) :=
  PG.weak (pg_tup hc h hn hst) fun v σ H Q ⟨F, S, ρ, d, Q', a, r, ⟨ds, g1, g2, g3⟩, p⟩ => by
    subst g1
    obtain ⟨b, vs, rfl, k1, k2⟩ := r.tup_e
    exact ⟨b, vs, rfl, seqT a.sr.fro k1, by rw [k2.length]; exact g2, F, S, ρ, ds, Q', a, k2, g3, p⟩
def tdAsg (t : TD) (g : TDG) : TDS := fun D ρ S => t ρ S fun x S1 => g x ρ S1 D.nx
theorem ds_asg {tg : Expr} {g : TDG} (he : DE X F0 e t) (hg : DG X F0 tg g) (hs : swapsWithSole [tg] e pos.line X.env = pure false := by rfl) (hw : swappedStores [tg] e X.env = pure none := by rfl)
    (h1 : (assignEach [tg] X.env).map (·.2) = [assign tg X.env] := by rfl) : DS X F0 (.Assign [tg] e pos) (tdAsg t g) :=
  PS.weak (ps_asg he hg hs hw h1) fun D σ H ⟨F, S, ρ, D', a, h, p⟩ => EL.go a h fun v H1 F1 S1 d x1 a1 r1 q1 =>
    ⟨F1, S1, ρ, d, _, a1, r1, q1, fun σ' H' F' S' ρ' y sr ev q => p.1 _ _ _ _ _ (x1.trans y) sr ev q⟩
theorem ds_set (i : Nat) {x : Str} (hN : X.N.Nodup) (he : DE X F0 e t) (hi : X.N[i]? = some x := by rfl) (hx : Loc X.env.scope x := by first | exact Or.inl rfl | exact Or.inr rfl) (hs : swapsWith e (some (.Name x pos')) pos.line X.env = pure false := by rfl) (hf : X.fn x = true ∨ X.env.scope.names.lookup x = some .local := by first | exact .inl rfl | exact .inr rfl | assumption) :
    DS X F0 (.Assign [.Name x pos'] e pos) (tdAsg t (gdName i)) :=
  PS.weak (ps_set (i := i) hN hi hx he hs hf) fun D σ H ⟨F, S, ρ, D', a, h, p⟩ => EL.go a h fun v H1 F1 S1 d x1 a1 r1 q1 => p.1 _ _ _ _ _ x1 a1.sr (a1.env.set r1 i) q1
/-- name op= e -/
def tdAug (i : Nat) (t : TD) (g : DOp) : TDS := fun D ρ S => ∃ x, ρ[i]? = some (some x) ∧ t ρ S fun y S1 => g S1 x y fun z S2 => D.nx (ρ.set i (some z)) S2
def DIp (X : Cx) (op : Operator) (g : DOp) : Prop := PIp X op (OL X.K g)
theorem PIp.weak {op : Operator} {r r' : TIp} (h : PIp X op r) (w : ∀ x y H Q, r' x y H Q → r x y H Q) : PIp X op r' := fun pins s σ H x y v u Q I r1 r2 q => h pins s σ H x y v u Q I r1 r2 (w _ _ _ _ q)
theorem dip_add : DIp X .Add (gI0 fun i j => .int (i + j)) := PIp.weak ip_add fun x y H Q ⟨F, S, dx, dy, Q', sr, rx, ry, q, p⟩ => by
  unfold gI0 at q
  split at q
  · exact ⟨_, _, rx.int_e, ry.int_e, p.of (Ext.refl _ _ _) sr (.int_i _) q⟩
  · exact q.elim
theorem dip_sub : DIp X .Sub (gI0 fun i j => .int (i - j)) := PIp.weak ip_sub fun x y H Q ⟨F, S, dx, dy, Q', sr, rx, ry, q, p⟩ => by
  unfold gI0 at q
  split at q
  · exact ⟨_, _, rx.int_e, ry.int_e, p.of (Ext.refl _ _ _) sr (.int_i _) q⟩
  · exact q.elim
theorem ds_aug (i : Nat) {x : Str} {op : Operator} {g : DOp} (hN : X.N.Nodup) (he : DE X F0 e t) (ho : DIp X op g) (hi : X.N[i]? = some x := by rfl) (hx : Loc X.env.scope x := by first | exact Or.inl rfl | exact Or.inr rfl) (hf : X.fn x = true ∨ X.env.scope.names.lookup x = some .local := by first | exact .inl rfl | exact .inr rfl | assumption) :
    DS X F0 (.AugAssign (.Name x pos') op e pos) (tdAug i t g) :=
  PS.weak (ps_aug (i := i) hN hi hx he ho hf) fun D σ H ⟨F, S, ρ, D', a, ⟨d0, e0, h⟩, p⟩ => by
    obtain ⟨v0, h1, h2⟩ := a.env.2 i d0 e0
    refine ⟨v0, h1, EL.go a h fun v H1 F1 S1 d x1 a1 r1 q1 => ?_⟩
    exact ⟨F1, S1, d0, d, _, a1.sr, RelD.mono x1.same _ _ h2, r1, q1, fun w H2 F2 S2 d2 x2 sr rd q => p.1 _ _ _ _ _ (x1.trans x2) sr ((a1.next x2 sr).env.set rd i) q⟩
/-- o.f = e -/
def putFD (f : Str) (d : D) : List (Str × D) → List (Str × D)
  | [] => [(f, d)]
  | (g, x) :: r => if g = f then (g, d) :: r else (g, x) :: putFD f d r
theorem putFD_rel {K : PySem.W.Frag} {F : Hp} {f : Str} {d : D} {v : V} (r : RelD K F d v) : ∀ {fs : List (Str × D)} {ws : List (Str × V)}, RelF K F fs ws → RelF K F (putFD f d fs) (putF f v ws)
  | [], _, h => by rw [show _ = _ from h]; exact ⟨v, [], rfl, r, rfl⟩
  | (g, x) :: fs, _, h => by
    obtain ⟨w, ws, rfl, h1, h2⟩ := h
    unfold putFD putF
    by_cases e : g = f
    · rw [if_pos e, if_pos e]; exact ⟨v, ws, rfl, r, h2⟩
    · rw [if_neg e, if_neg e]; exact ⟨w, _, rfl, h1, putFD_rel r h2⟩
def tdPutF (K : PySem.W.Frag) (to te : TD) (f : Str) : TDS := fun D ρ S => te ρ S fun y S1 => to ρ S1 fun x S2 => ∃ a C fs, x = .ref a ∧ S2 a = some (.ins C fs) ∧ Plain K f C ∧ fs.length < 1000 ∧ D.nx ρ (sup S2 a (.ins C (putFD f y fs)))
theorem ds_putF {o : Expr} {f : Str} {to : TD} (ho : DE X F0 o to) (he : DE X F0 e t) (hs : swapsWith e (some (.Attribute o f pos')) pos.line X.env = pure false := by rfl) : DS X F0 (.Assign [.Attribute o f pos'] e pos) (tdPutF X.K to t f) :=
  PS.weak (ps_fld ho he hs) fun D σ H ⟨F, S, ρ, D', a, h, p⟩ => EL.go a h fun v H1 F1 S1 d x1 a1 r1 q1 => EL.go a1 q1 fun v2 H2 F2 S2 d2 x2 a2 r2 ⟨b, C, fs, e1, e2, pl, hl, q⟩ => by
    subst e1
    obtain ⟨dx, ws, h1, h2⟩ := a2.sr.ins e2
    refine ⟨b, C, dx, ws, r2.ref_e, h1, pl.cl, pl.no, by rw [h2.length]; exact hl, ?_⟩
    exact p.1 _ _ _ _ _ ((x1.trans x2).trans (a2.sr.ext_write e2)) (a2.sr.write (o := .ins C (putFD f d fs)) e2 ⟨dx, _, rfl, putFD_rel (RelD.mono x2.same _ _ r1) h2⟩) a2.env q
/-- o.f += e -/
def tdAugF (K : PySem.W.Frag) (to te : TD) (f : Str) (g : Int → Int → Int) : TDS := fun D ρ S => to ρ S fun x S1 => ∃ a C fs i, x = .ref a ∧ S1 a = some (.ins C fs) ∧ Plain K f C ∧ fs.lookup f = some (.int i) ∧
  te ρ S1 fun y S2 => ∃ j fs', y = .int j ∧ S2 a = some (.ins C fs') ∧ fs'.length < 1000 ∧ D.nx ρ (sup S2 a (.ins C (putFD f (.int (g i j)) fs')))
theorem ds_augF {o : Expr} {f : Str} {to : TD} {op : Operator} {g : Int → Int → Int} {rd : V → V → Hp → VK → Prop} (ho : DE X F0 o to) (he : DE X F0 e t) (hop : InOp X op rd) (hrd : ∀ i j H (Q : VK), Q (.int (g i j)) H → rd (.int i) (.int j) H Q) :
    DS X F0 (.AugAssign (.Attribute o f pos') op e pos) (tdAugF X.K to t f g) :=
  PS.weak (ps_fldaug ho he hop) fun D σ H ⟨F, S, ρ, D', a, h, p⟩ => EL.go a h fun v H1 F1 S1 d x1 a1 r1 ⟨b, C, fs, i, e1, e2, pl, l, q1⟩ => by
    subst e1
    obtain ⟨dx, ws, h1, h2⟩ := a1.sr.ins e2
    obtain ⟨w, l1, l2⟩ := h2.lookup l
    obtain rfl := l2.int_e
    refine ⟨b, C, dx, ws, _, r1.ref_e, h1, pl.cl, pl.no, l1, ?_⟩
    refine EL.go a1 q1 fun v2 H2 F2 S2 d2 x2 a2 r2 ⟨j, fs', e3, e4, hl, q⟩ => ?_
    subst e3
    obtain rfl := r2.int_e
    obtain ⟨dx', ws', h3, h4⟩ := a2.sr.ins e4
    refine hrd _ _ _ _ ⟨dx', ws', h3, by rw [h4.length]; exact hl, ?_⟩
    exact p.1 _ _ _ _ _ ((x1.trans x2).trans (a2.sr.ext_write e4)) (a2.sr.write (o := .ins C (putFD f (.int (g i j)) fs')) e4 ⟨dx', _, rfl, putFD_rel (.int_i _) h4⟩) a2.env q
theorem rd_add : ∀ i j H (Q : VK), Q (.int (i + j)) H → rAdd (.int i) (.int j) H Q := fun i j H Q q => ⟨i, j, rfl, rfl, q⟩
theorem rd_sub : ∀ i j H (Q : VK), Q (.int (i - j)) H → rSub (.int i) (.int j) H Q := fun i j H Q q => ⟨i, j, rfl, rfl, q⟩
def gSet (S : Store) (o i v : D) (Q : Store → Prop) : Prop := ∃ a ds k j, o = .ref a ∧ i = .int k ∧ S a = some (.lst ds) ∧ ixN ds.length k = some j ∧ Q (sup S a (.lst (ds.set j v)))
def gdSub (to ti : TD) : TDG := fun v ρ S Q => to ρ S fun o S1 => ti ρ S1 fun i S2 => gSet S2 o i v fun S3 => Q ρ S3
theorem dg_sub {o i : Expr} {to ti : TD} (ho : DE X F0 o to) (hi : DE X F0 i ti)
    (ha : ∀ v, assign (.Subscript o i pos) X.env v = (do
      let ov ← holding [v] (eval o X.env)
      let iv ← holding [v, ov] (eval i X.env)
      standAt pos
      holding [v, ov, iv] (setItem ov iv v)
      release [v, ov, iv] []) := by intro _; rfl) : DG X F0 (.Subscript o i pos) (gdSub to ti) :=
  PG.weak (pg_sub ho hi set_list ha) fun v σ H Q ⟨F, S, ρ, d, Q', a, r, g, p⟩ => EL.go a g fun v1 H1 F1 S1 d1 x1 a1 r1 q1 => EL.go a1 q1 fun v2 H2 F2 S2 d2 x2 a2 r2 ⟨b, ds, k, j, e1, e2, e3, e4, q⟩ => by
    subst e1; subst e2
    obtain ⟨vs, h1, h2⟩ := a2.sr.lst e3
    refine ⟨b, vs, k, j, (RelD.mono x2.same _ _ r1).ref_e, r2.int_e, h1, by rw [h2.length]; exact e4, ?_⟩
    exact p _ _ _ _ _ ((x1.trans x2).trans (a2.sr.ext_write e3)) (a2.sr.write (o := .lst _) e3 ⟨_, rfl, h2.set (RelD.mono x2.same _ _ (RelD.mono x1.same _ _ r)) j⟩) a2.env q
theorem pget_list : PGet X (fun o i H Q => ∃ p xs k v, o = .ref p ∧ i = .int k ∧ 0 ≤ k ∧ SqL X.K H p xs ∧ xs[k.toNat]? = some v ∧ Q v H) := by
  intro pins s σ H o i ov iv Q I ro ri ⟨p, xs, k, v, e1, e2, hk, hs, hv, q⟩
  subst e1; subst e2
  cases ro
  obtain ⟨tk, rfl⟩ := ri
  obtain ⟨its, r, pl, hz⟩ := I.list hs
  obtain ⟨w, hw, rw'⟩ := r.get hv
  have hlt : k.toNat < xs.length := (List.getElem?_eq_some_iff.mp hv).1
  have hn : (sizeLine : Int) < 2 ^ 63 := by decide
  exact wpAny_getItem_list pl.isList hk (by omega) (by simpa using hw) ⟨v, H, I, rw', q⟩
def tdAugS (to ti te : TD) (g : Int → Int → Int) : TDS := fun D ρ S => to ρ S fun o S1 => ti ρ S1 fun i S2 => ∃ a ds k n, o = .ref a ∧ i = .int k ∧ 0 ≤ k ∧ S2 a = some (.lst ds) ∧ ds[k.toNat]? = some (.int n) ∧
  te ρ S2 fun y S3 => ∃ m ds', y = .int m ∧ S3 a = some (.lst ds') ∧ k.toNat < ds'.length ∧ D.nx ρ (sup S3 a (.lst (ds'.set k.toNat (.int (g n m)))))
theorem ds_augS {o i : Expr} {to ti : TD} {op : Operator} {g : Int → Int → Int} (ho : DE X F0 o to) (hi : DE X F0 i ti) (he : DE X F0 e t) (hp : PIp X op (ipI g))
    (ha : ∀ ov iv new, augStore i ov iv new = (do holding [new, ov, iv] (setItem ov iv new); release [new, ov, iv] []; pure .next) := by intros; rfl) : DS X F0 (.AugAssign (.Subscript o i pos') op e pos) (tdAugS to ti t g) :=
  PS.weak (ps_augS ho hi pget_list he hp set_list ha) fun D σ H ⟨F, S, ρ, D', a, h, p⟩ => EL.go a h fun v1 H1 F1 S1 d1 x1 a1 r1 q1 => EL.go a1 q1 fun v2 H2 F2 S2 d2 x2 a2 r2 ⟨b, ds, k, n, e1, e2, hk, e3, e4, q⟩ => by
    subst e1; subst e2
    obtain ⟨vs, h1, h2⟩ := a2.sr.lst e3
    obtain ⟨w, h3, h4⟩ := h2.get e4
    obtain rfl := h4.int_e
    refine ⟨b, vs, k, _, r1.ref_e, r2.int_e, hk, .of h1, h3, EL.go a2 q fun v3 H3 F3 S3 d3 x3 a3 r3 ⟨m, ds', e5, e6, hl, q⟩ => ?_⟩
    subst e5
    obtain ⟨us, h5, h6⟩ := a3.sr.lst e6
    refine ⟨n, m, rfl, r3.int_e, b, us, k, k.toNat, r1.ref_e, r2.int_e, h5, ?_, ?_⟩
    · unfold ixN
      rw [h6.length, if_pos hk, if_pos (by omega)]
    · exact p.1 _ _ _ _ _ (((x1.trans x2).trans x3).trans (a3.sr.ext_write e6)) (a3.sr.write (o := .lst _) e6 ⟨_, rfl, h6.set (.int_i _) _⟩) a3.env q
end
end DL
namespace DL
open PySem PySem.Spec L2 PyProof.Rows
/-- d calls deep may be gone from here -/
structure Rm (d : Nat) (A : Around) : Prop where
  noh : A.handled = none
  dep : A.depth + d + 40 < recursionLimit
  uni : A.units + 4 * d + 400 < cLine
theorem Rm.mono {i d : Nat} {A : Around} (q : Rm d A) (hle : i ≤ d) : Rm i A := ⟨q.noh, by have z := q.dep; omega, by have z := q.uni; omega⟩
theorem Rm.body {d : Nat} {A : Around} (q : Rm (d + 1) A) (env : Env) : Rm d (A.deeper env) :=
  ⟨q.noh, by have z := q.dep; show A.depth + 1 + d + 40 < _; omega, by have z := q.uni; show A.units + 3 + 4 * d + 400 < _; omega⟩
theorem Rm.made {d : Nat} {A : Around} (q : Rm (d + 1) A) (C : Addr) (us : List Value) (kw : List (Str × Value)) : Rm d (A.under (.builtin "type.__call__" ⟨.ref C :: us, kw⟩)) :=
  ⟨q.noh, by have z := q.dep; rw [make_depth]; omega, by have z := q.uni; rw [make_units]; omega⟩
theorem Rm.room {d k : Nat} {A : Around} (q : Rm d A) (hk : k ≤ 11) : Room k A := ⟨q.noh, by have z := q.dep; omega, by have z := q.uni; omega⟩
/-- where the hand layer's room is wide enough -/
theorem Rm.of {d k : Nat} {A : Around} (q : Room k A) (h1 : d + 35 ≤ 3 * k) (h2 : 4 * d + 200 ≤ 16 * k) : Rm d A := ⟨q.hd, by have z := q.dp; omega, by have z := q.un; omega⟩
/-- a def's promise, with a budget of d calls -/
structure FnD (P : Program) (w : World) (K : PySem.W.Frag) (mg : Str → Option Value) (base : Heap) (d : Nat) (f : Addr) (fd : FuncData) (ps : List Str) (sp : Sp) : Prop where
  many : ∀ us H Q E, sp us H Q E → us.length = ps.length
  goes : ∀ (A : Around) (outer : List Env) (s : Shared) (H : Hp) (args : Args) (ws : List Value) (us : List V) (Q : VK) (E : XK), Rm d A → Env0 P w K mg base A outer s H → BindsTo s fd args (ps.zip ws) → Vals us ws → sp us H Q E →
    codeAny (model P w) A (.call (.ref f) args) (CR (L2.CX P w) outer P w H s Q E) s
section
variable {X : Cx} {d : Nat} {f C : Addr} {fd : FuncData} {ps : List Str} {sp : Sp} {E : XK} {x m : Str} {p pos apos : Pos} {e o : Expr} {es : List Expr} {ta : TE} {t : TA}
theorem spNil {us : List V} {H : Hp} {Q : VK} (h : sp (us ++ []) H Q E) : sp us H Q E := by
  rw [List.append_nil] at h
  exact h
theorem goes_fn {pins : List (Addr × Obj)} {σ : L2.St} {H : Hp} {s : Shared} {Q : VK} {ws : List Value} {us : List V} (G : FnD X.prog X.w X.K X.mg X.base d f fd ps sp) (hr : Rm d X.A) (hb : Binds X.K fd ps []) (hx : Passes (L2.CX X.prog X.w) X E)
    (I : Inv X pins σ H s) (r : Vals us ws) (h : sp us H Q E) : wpAny (model X.prog X.w) X.A (call (.ref f) ws) (EP X pins σ Q) X.xe s := by
  have hl : (ws ++ []).length = ps.length := by rw [List.append_nil, ← r.length]; exact G.many _ _ _ _ h
  have bb := hb s ws I.kIn hl
  rw [List.append_nil] at bb
  refine wpAny_call (codeAny_mono (G.goes X.A X.stack s H ⟨ws, []⟩ ws us Q E hr I.env0 bb r h) fun z s' hq => ?_)
  match z, hq with
  | .error e, hq => exact hx pins σ H s e s' I hq
  | .ok (.ret u), hq => exact I.after hq
theorem pd_call (G : FnD X.prog X.w X.K X.mg X.base d f fd ps sp) (hr : Rm d X.A) (hg : Gl X x) (hm : X.mg x = some (.ref f)) (hk : PySem.W.keepIn X.K (.ref f) = true) (hb : Binds X.K fd ps []) (hx : Passes (L2.CX X.prog X.w) X E)
    (ha : PA X (e :: es) t) (hdb : (x == ("__debug__" : Str)) = false := by decide) (he : starEach (e :: es) X.env = (false, eval e X.env) :: starEach es X.env := by rfl) (hpl : (backTo pos (starEach es X.env)).any (·.1) = false := by rfl) :
    PE X (.Call (.Name x p) (e :: es) [] pos) (tCall sp [] E t) :=
  ⟨fun pins s σ H Q I h => wpAny_Call_Name_kw (ld_glob I hg hm (PySem.W.callWith_K (h₀ := X.base) I.ok.mod.kin hk (thn (ha.run pos pins s σ H _ I h) fun ws s1 ⟨us, H1, I1, r, q⟩ => ⟨I1.kIn, goes_fn G hr hb hx I1 r (spNil q)⟩) he hpl) hdb)⟩
theorem pd_call0 (G : FnD X.prog X.w X.K X.mg X.base d f fd ps sp) (hr : Rm d X.A) (hg : Gl X x) (hm : X.mg x = some (.ref f)) (hk : PySem.W.keepIn X.K (.ref f) = true) (hb : Binds X.K fd ps []) (hx : Passes (L2.CX X.prog X.w) X E)
    (hdb : (x == ("__debug__" : Str)) = false := by decide) : PE X (.Call (.Name x p) [] [] pos) (tCall sp [] E tNil) :=
  ⟨fun pins s σ H Q I h => wpAny_Call_Name_kw (ld_glob I hg hm (PySem.W.callWith_K0 I.kIn hk (goes_fn (ws := []) G hr hb hx I .nil h)) hdb)⟩
theorem pd_callL {i : Nat} (G : FnD X.prog X.w X.K X.mg X.base d f fd ps sp) (hr : Rm d X.A) (hN : X.N[i]? = some x) (hv : Vis X.env.scope x) (hk : PySem.W.keepIn X.K (.ref f) = true) (hb : Binds X.K fd ps []) (hx : Passes (L2.CX X.prog X.w) X E) (ha : PA X (e :: es) t)
    (hdb : (x == ("__debug__" : Str)) = false := by decide) (hcd : (x == ("__classdict__" : Str)) = false := by decide)
    (he : starEach (e :: es) X.env = (false, eval e X.env) :: starEach es X.env := by rfl) (hpl : (backTo pos (starEach es X.env)).any (·.1) = false := by rfl) : PE X (.Call (.Name x p) (e :: es) [] pos) (tCallL i f sp [] E t) := by
  refine ⟨fun pins s σ H Q I ⟨h0, h⟩ => wpAny_Call_Name_kw (thn ((pe_var (pos := p) hN hv hdb hcd).run pins s σ H (fun v H1 => v = .ref f ∧ H1 = H) I ⟨.ref f, h0, rfl, rfl⟩) fun u s1 ⟨v, H1, I1, r1, e1, e2⟩ => ?_)⟩
  subst e1; subst e2
  obtain rfl : u = Value.ref f := r1
  refine PySem.W.callWith_K (h₀ := X.base) I.ok.mod.kin hk (thn (ha.run pos pins s1 σ _ _ I1 h) fun ws s2 ⟨us, H2, I2, r, q⟩ => ⟨I2.kIn, ?_⟩) he hpl
  exact goes_fn G hr hb hx I2 r (spNil q)
theorem pd_meth {pl : Sem Bool} (he : PE X o ta) (c : Cls X.K C) (hm : Meth X.K C m f) (G : FnD X.prog X.w X.K X.mg X.base d f fd ps sp) (hr : Rm d X.A) (hb : Binds X.K fd ps []) (hx : Passes (L2.CX X.prog X.w) X E) (ha : PA X (e :: es) t)
    (hst : starEach (e :: es) X.env = (false, eval e X.env) :: starEach es X.env := by rfl) (hpl : (backTo pos (starEach es X.env)).any (·.1) = false := by rfl)
    (ht : eval (.Call (.Attribute o m apos) (e :: es) [] pos) X.env = (do
      let ov ← eval o X.env
      standAt apos.atName
      let (f, first) ← holding [ov] (getMethod ov m pl)
      callWith pos f first (backTo pos (starEach (e :: es) X.env)) (backToKw pos (keywordEach [] X.env))) := by rfl) :
    PE X (.Call (.Attribute o m apos) (e :: es) [] pos) (tMeth C m sp [] E ta t) := by
  refine ⟨fun pins s σ H Q I h => PySem.W.methodCall_KW (pl := pl) (thn (he.run pins s σ H _ I h) fun u s1 ⟨y, H1, I1, ry, a, dx, fs, e1, e2, l, q⟩ => ?_) ht⟩
  subst e1
  obtain rfl : u = Value.ref a := ry
  refine getmeth_ok I1 e2 c hm l (PySem.W.callWith_K (first := [.ref a]) (h₀ := X.base) I.ok.mod.kin hm.kp (thn (ha.run pos pins s1 σ H1 _ I1 q) fun ws s2 ⟨us, H2, I2, r, q2⟩ => ⟨I2.kIn, ?_⟩) hst hpl)
  exact goes_fn (ws := .ref a :: ws) (us := .ref a :: us) G hr hb hx I2 (.cons rfl r) (spNil (us := .ref a :: us) q2)
theorem pd_meth0 {pl : Sem Bool} (he : PE X o ta) (c : Cls X.K C) (hm : Meth X.K C m f) (G : FnD X.prog X.w X.K X.mg X.base d f fd ps sp) (hr : Rm d X.A) (hb : Binds X.K fd ps []) (hx : Passes (L2.CX X.prog X.w) X E)
    (ht : eval (.Call (.Attribute o m apos) [] [] pos) X.env = (do
      let ov ← eval o X.env
      standAt apos.atName
      let (f, first) ← holding [ov] (getMethod ov m pl)
      callWith pos f first (backTo pos (starEach [] X.env)) (backToKw pos (keywordEach [] X.env))) := by rfl) :
    PE X (.Call (.Attribute o m apos) [] [] pos) (tMeth C m sp [] E ta tNil) := by
  refine ⟨fun pins s σ H Q I h => PySem.W.methodCall_KW (pl := pl) (thn (he.run pins s σ H _ I h) fun u s1 ⟨y, H1, I1, ry, a, dx, fs, e1, e2, l, q⟩ => ?_) ht⟩
  subst e1
  obtain rfl : u = Value.ref a := ry
  exact getmeth_ok I1 e2 c hm l (PySem.W.callWith_K0 (first := [.ref a]) I1.kIn hm.kp (goes_fn (ws := [.ref a]) (us := [.ref a]) G hr hb hx I1 (.cons rfl .nil) q))
theorem goes_make {pins : List (Addr × Obj)} {σ : L2.St} {H : Hp} {s : Shared} {Q : VK} {ws : List Value} {us : List V} (M : Mk X.K C f) (G : FnD X.prog X.w X.K X.mg X.base d f fd ps sp) (hr : Rm (d + 1) X.A) (hb : Binds X.K fd ps [])
    (hx : Passes (L2.CX X.prog X.w) X E) (I : Inv X pins σ H s) (r : Vals us ws)
    (h : ∀ y dy, H y = none → H dy = none → dy ≠ y → sp (.ref y :: us) (upd (upd H dy (.own y)) y (.ins C dy [])) (fun v H2 => v = .non ∧ Q (.ref y) H2) E) :
    wpAny (model X.prog X.w) X.A (call (.ref C) ws) (EP X pins σ Q) X.xe s := by
  have hq := h (s.heap.objs.size + 1) s.heap.objs.size (I.hok.fresh (Nat.le_succ _)) (I.hok.fresh (Nat.le_refl _)) (Nat.ne_of_lt (Nat.lt_succ_self _))
  have J := Inv.made (C := C) I
  have r2 : Vals (V.ref (s.heap.objs.size + 1) :: us) (Value.ref (s.heap.objs.size + 1) :: ws) := .cons rfl r
  have bb := hb _ (Value.ref (s.heap.objs.size + 1) :: ws) J.kIn (by rw [List.append_nil, ← r2.length]; exact G.many _ _ _ _ hq)
  rw [List.append_nil] at bb
  refine wpAny_call (make_map (f := f) I.kIn M.makes M.init (beq_iff_eq.mp M.fn) (codeAny_mono (G.goes _ X.stack _ _ ⟨Value.ref (s.heap.objs.size + 1) :: ws, []⟩ _ _ _ E (hr.made C ws []) (J.env0.make C ws []) bb r2 hq) fun z s' hz => ?_))
  match z, hz with
  | .error e, hz => exact hx pins σ _ _ e s' J hz
  | .ok (.ret u), hz =>
    obtain ⟨v, H', J2, rv, ev, q3⟩ := J.after hz
    subst ev
    exact ⟨rv, ⟨V.ref (s.heap.objs.size + 1), H', J2, rfl, q3⟩⟩
theorem pd_make (M : Mk X.K C f) (G : FnD X.prog X.w X.K X.mg X.base d f fd ps sp) (hr : Rm (d + 1) X.A) (hg : Gl X x) (hm : X.mg x = some (.ref C)) (hb : Binds X.K fd ps []) (hx : Passes (L2.CX X.prog X.w) X E)
    (ha : PA X (e :: es) t) (hdb : (x == ("__debug__" : Str)) = false := by decide) (he : starEach (e :: es) X.env = (false, eval e X.env) :: starEach es X.env := by rfl) (hpl : (backTo pos (starEach es X.env)).any (·.1) = false := by rfl) :
    PE X (.Call (.Name x p) (e :: es) [] pos) (tMake C sp [] E t) :=
  ⟨fun pins s σ H Q I h => wpAny_Call_Name_kw (ld_glob I hg hm (PySem.W.callWith_K (h₀ := X.base) I.ok.mod.kin M.kp (thn (ha.run pos pins s σ H _ I h) fun ws s1 ⟨us, H1, I1, r, q⟩ => ⟨I1.kIn, goes_make M G hr hb hx I1 r (fun y dy a b c => spNil (us := .ref y :: us) (q y dy a b c))⟩) he hpl) hdb)⟩
end
section
variable {P : Program} {w : World} {K : PySem.W.Frag} {mg : Str → Option Value} {base : Heap}
/-- a def by its body, with a budget of depth -/
theorem fnd_of {x qual : Str} {st : Stmt} {f : Addr} {fd : FuncData} {N ps : List Str} {d : Nat} {sp : Sp} (Fn : Fun K x qual st f fd) (Sc : FnScope N ps (defScope st)) (many : ∀ us H Q E, sp us H Q E → us.length = ps.length)
    (hbody : ∀ (cdv : Value) (A : Around) (outer : List Env) (s : Shared) (H : Hp) (us : List V) (Q : VK) (E : XK), Rm d (A.deeper (envOfC qual (defScope st) s.heap.objs.size f cdv)) → sp us H Q E →
      ∃ t, PSs (cxOf (L2.CX P w) P w K mg base N qual (defScope st) f cdv A outer s H E) (defBody st) t ∧ t { nx := fun _ H' => Q .non H', rt := Q } (start N us) H) :
    FnD P w K mg base (d + 1) f fd ps sp := by
  obtain ⟨oc, od, kV, doc, pm, an, cdv, ct, osl, rfl, lk, hcd⟩ := Fn.ex
  refine ⟨many, fun A outer s H args ws us Q E hr e0 hb r hsp => ?_⟩
  have KX : K.In s.heap := e0.mod.kin.keeps fun b o z => (e0.bs b o z).1
  have hkind : ∀ y ∈ ps.zip ws, (defScope st).names.lookup y.1 = some .local ∨ ((defScope st).names.lookup y.1 = some .cell ∧ ((cellsFrom (s.heap.objs.size + 1) (defScope st).names []).lookup y.1).isSome = true) := fun ⟨n, v⟩ hy =>
    (Sc.par n (List.of_mem_zip hy).1).imp id fun q => ⟨q, PySem.W.cellsFrom_some _ _ _ (.inl q)⟩
  refine codeAny_call_function (by have z := hr.dep; omega) (KX _ _ lk) rfl Sc.co Sc.gen rfl (PySem.W.codeRec_of KX hcd) (hb _ _ _ _ (wpAny_newFunctionEnv_cells Sc.kind hkind fun env he s1 y => ?_))
  subst he
  obtain ⟨t, ht, hq⟩ := hbody cdv A outer s H us Q E (hr.body _) hsp
  have I : Inv (cxOf (L2.CX P w) P w K mg base N qual (defScope st) f cdv A outer s H E) [] (start N us) H s1 := inv_start Sc hr.noh e0 (many _ _ _ _ hsp) r y
  refine ⟨(e0.mod.nolimit.keeps fun b o z => (e0.bs b o z).1).keeps y.toInCall.keep, codeAny_func (wpAny_mono (ht.run [] s1 (start N us) H _ I hq) (fun fl s' hs => ?_) fun e s' hs => hs)⟩
  have fin : ∀ {σ' : L2.St} {H' : Hp} {v : V} {u : Value}, Inv (cxOf (L2.CX P w) P w K mg base N qual (defScope st) f cdv A outer s H E) [] σ' H' s' → RelV v u → Q v H' → CE outer P w H s Q u s' :=
    fun {σ' H' v u} J rv q => ⟨v, H', J.os, J.bare, J.base, J.hok, rv, q⟩
  match fl, hs with
  | .ret u, ⟨v, σ', H', J, rv, q⟩ => exact fin J rv q
  | .next, ⟨σ', H', J, q⟩ => exact fin (v := V.non) (u := Value.none) J rfl q
  | .brk, ⟨_, _, _, q⟩ => exact q.elim
  | .cont, ⟨_, _, _, q⟩ => exact q.elim
end
end DL
namespace DL
open PySem PySem.Spec L2
def kD : DK → D
  | .inl i => .int i
  | .inr t => .str t
def valD : List (DK × D) → DK → Option D
  | [], _ => none
  | (k', d) :: r, k => if k' = k then some d else valD r k
def hasD : List (DK × D) → DK → Bool
  | [], _ => false
  | (k', _) :: r, k => if k' = k then true else hasD r k
/-- in its place -/
def repD : List (DK × D) → DK → D → List (DK × D)
  | [], _, _ => []
  | (k', d') :: r, k, d => (k', if k' = k then d else d') :: repD r k d
def putD (kvs : List (DK × D)) (k : DK) (d : D) : List (DK × D) := if hasD kvs k = true then repD kvs k d else kvs ++ [(k, d)]
def mergeD (kvs more : List (DK × D)) : List (DK × D) := more.foldl (fun acc kv => putD acc kv.1 kv.2) kvs
abbrev kmap (kvs : List (DK × D)) : List (Key × D) := kvs.map fun p => (kk p.1, p.2)
section
variable {K : PySem.W.Frag} {F : Hp}
theorem kV_rel (k : DK) : RelD K F (kD k) (kV (kk k)) := by
  cases k with
  | inl i => exact .int_i i
  | inr t => exact .str_i t
theorem kD_rel {k : DK} {v : V} (r : RelD K F (kD k) v) : v = kV (kk k) := by
  cases k with
  | inl i => exact r.int_e
  | inr t => exact r.str_e
theorem valD_rel {k : DK} {d : D} : ∀ {kvs : List (DK × D)} {ws : List (Key × V)}, RelF K F (kmap kvs) ws → valD kvs k = some d → ∃ v, valV ws (kk k) = some v ∧ RelD K F d v
  | [], _, _, e => by cases e
  | (k', d') :: r, _, h, e => by
    obtain ⟨w, ws, rfl, h1, h2⟩ := h
    unfold valD at e
    by_cases q : k' = k
    · rw [if_pos q] at e; cases e
      exact ⟨w, by rw [q]; exact valV_pos rfl, h1⟩
    · rw [if_neg q] at e
      obtain ⟨v, h3, h4⟩ := valD_rel h2 e
      refine ⟨v, ?_, h4⟩
      unfold valV at h3 ⊢
      rw [List.find?_cons_of_neg]
      · exact h3
      · simp; exact fun z => q (kk_inj z)
theorem hasD_rel {k : DK} : ∀ {kvs : List (DK × D)} {ws : List (Key × V)}, RelF K F (kmap kvs) ws → (ws.any fun kv => decide (kv.1 = kk k)) = hasD kvs k
  | [], _, h => by rw [show _ = _ from h]; rfl
  | (k', d') :: r, _, h => by
    obtain ⟨w, ws, rfl, h1, h2⟩ := h
    unfold hasD
    rw [List.any_cons, hasD_rel h2]
    by_cases q : k' = k
    · rw [if_pos q, q]; simp
    · rw [if_neg q]
      have : decide ((kk k', w).1 = kk k) = false := decide_eq_false fun z => q (kk_inj z)
      rw [this]; rfl
theorem repD_rel {k : DK} {d : D} {v : V} (rd : RelD K F d v) : ∀ {kvs : List (DK × D)} {ws : List (Key × V)}, RelF K F (kmap kvs) ws → RelF K F (kmap (repD kvs k d)) (ws.map fun kv => if kv.1 = kk k then (kv.1, v) else kv)
  | [], _, h => by rw [show _ = _ from h]; exact rfl
  | (k', d') :: r, _, h => by
    obtain ⟨w, ws, rfl, h1, h2⟩ := h
    unfold repD
    by_cases q : k' = k
    · subst q
      refine ⟨v, _, ?_, by simpa using rd, repD_rel rd h2⟩
      simp
    · have n : ¬ kk k' = kk k := fun z => q (kk_inj z)
      refine ⟨w, _, ?_, by rw [if_neg q]; exact h1, repD_rel rd h2⟩
      simp [n]
theorem RelF.app {κ : Type} : ∀ {fs gs : List (κ × D)} {ws us : List (κ × V)}, RelF K F fs ws → RelF K F gs us → RelF K F (fs ++ gs) (ws ++ us)
  | [], _, _, _, h, g => by rw [show _ = _ from h]; exact g
  | (k, d) :: fs, _, _, _, h, g => by
    obtain ⟨v, r, rfl, h2, h3⟩ := h
    exact ⟨v, _, rfl, h2, RelF.app h3 g⟩
theorem putD_rel {k : DK} {d : D} {v : V} {kvs : List (DK × D)} {ws : List (Key × V)} (rd : RelD K F d v) (h : RelF K F (kmap kvs) ws) : RelF K F (kmap (putD kvs k d)) (putK ws (kk k) v) := by
  unfold putD putK
  rw [hasD_rel h]
  split
  · exact repD_rel rd h
  · unfold kmap
    rw [List.map_append]
    exact RelF.app h ⟨v, [], rfl, rd, rfl⟩
theorem mergeD_rel : ∀ {more : List (DK × D)} {ms : List (Key × V)} {kvs : List (DK × D)} {ws : List (Key × V)}, RelF K F (kmap more) ms → RelF K F (kmap kvs) ws → RelF K F (kmap (mergeD kvs more)) (mergeK ws ms)
  | [], _, kvs, ws, h, g => by rw [show _ = _ from h]; exact g
  | (k, d) :: r, _, kvs, ws, h, g => by
    obtain ⟨v, ms, rfl, h1, h2⟩ := h
    show RelF K F (kmap (mergeD (putD kvs k d) r)) (mergeK (putK ws (kk k) v) ms)
    exact mergeD_rel (more := r) (ms := ms) h2 (putD_rel h1 g)
/-- what was laid ahead takes its content -/
theorem SR.adoptS {S2 : Store} {H2 : Hp} {p : Addr} {o : DO} {ho : HO} (sr : SR K F S2 H2) (hF : F p = none) (r : RelO K F o ho) : SR K F (sup S2 p o) (upd H2 p ho) where
  fro := fun b u q => by
    rw [upd_ne]; exact sr.fro b u q
    intro z; rw [z, hF] at q; cases q
  obj := fun b u q => by
    by_cases z : b = p
    · subst z; rw [sup_same] at q; cases q
      exact ⟨hF, ho, upd_same, r⟩
    · rw [sup_ne z] at q; rw [upd_ne z]; exact sr.obj b u q
theorem SR.adoptF {S2 : Store} {H2 : Hp} {p : Addr} {ho : HO} (sr : SR K F S2 H2) (hF : F p = none) (hS : S2 p = none) : SR K (upd F p ho) S2 (upd H2 p ho) ∧ Same F (upd F p ho) := by
  have sm : Same F (upd F p ho) := fun b u q => by
    rw [upd_ne]; exact q
    intro z; rw [z, hF] at q; cases q
  refine ⟨⟨fun b u q => ?_, fun b u q => ?_⟩, sm⟩
  · by_cases z : b = p
    · subst z; rw [upd_same] at q ⊢; exact q
    · rw [upd_ne z] at q ⊢; exact sr.fro b u q
  · obtain ⟨h1, ho', h2, h3⟩ := sr.obj b u q
    have z : b ≠ p := by intro z; rw [z, hS] at q; cases q
    rw [upd_ne z, upd_ne z]
    exact ⟨h1, ho', h2, h3.mono sm⟩
theorem Ext.laid_none {F2 : Hp} {S S2 : Store} {H H2 : Hp} {p : Addr} {o1 : HO} (sr : SR K F S H) (x : Ext F S (upd H p o1) F2 S2 H2) (hp : H p = none) : F2 p = none ∧ S2 p = none ∧ H2 p = some o1 := by
  have hS := sr.snone hp
  have hF := sr.fnone hp
  refine ⟨?_, ?_, x.off p o1 upd_same hS⟩
  · cases q : F2 p with
    | none => rfl
    | some u =>
      rcases x.newF p (by rw [q]; simp) hF with z | z
      · exact absurd hS z
      · rw [upd_same] at z; cases z
  · cases q : S2 p with
    | none => rfl
    | some u =>
      rcases x.newS p (by rw [q]; simp) with z | z
      · exact absurd hS z
      · rw [upd_same] at z; cases z
theorem Ext.adoptS {F2 : Hp} {S S2 : Store} {H H2 : Hp} {p : Addr} {o1 ho : HO} {o : DO} (x : Ext F S (upd H p o1) F2 S2 H2) (hp : H p = none) : Ext F S H F2 (sup S2 p o) (upd H2 p ho) where
  same := x.same
  off := fun b u q n => by
    have z : b ≠ p := by intro z; rw [z, hp] at q; cases q
    rw [upd_ne z]
    exact x.off b u (by rw [upd_ne z]; exact q) n
  newF := fun b q g => by
    rcases x.newF b q g with z | z
    · exact .inl z
    · by_cases e : b = p
      · subst e; exact .inr hp
      · rw [upd_ne e] at z; exact .inr z
  newS := fun b q => by
    by_cases e : b = p
    · subst e; exact .inr hp
    · rw [sup_ne e] at q
      rcases x.newS b q with z | z
      · exact .inl z
      · rw [upd_ne e] at z; exact .inr z
theorem Ext.adoptF {F2 : Hp} {S S2 : Store} {H H2 : Hp} {p : Addr} {o1 ho : HO} (x : Ext F S (upd H p o1) F2 S2 H2) (hp : H p = none) (hF2 : F2 p = none) : Ext F S H (upd F2 p ho) S2 (upd H2 p ho) where
  same := fun b u q => by
    have h := x.same b u q
    rw [upd_ne]; exact h
    intro z; rw [z, hF2] at h; cases h
  off := fun b u q n => by
    have z : b ≠ p := by intro z; rw [z, hp] at q; cases q
    rw [upd_ne z]
    exact x.off b u (by rw [upd_ne z]; exact q) n
  newF := fun b q g => by
    by_cases e : b = p
    · subst e; exact .inr hp
    · rw [upd_ne e] at q
      rcases x.newF b q g with z | z
      · exact .inl z
      · rw [upd_ne e] at z; exact .inr z
  newS := fun b q => by
    rcases x.newS b q with z | z
    · exact .inl z
    · by_cases e : b = p
      · subst e; exact .inr hp
      · rw [upd_ne e] at z; exact .inr z
/-- laid empty, untracked over data -/
theorem SR.laid {S : Store} {H : Hp} {p : Addr} {o1 : HO} (sr : SR K F S H) (hp : H p = none) : SR K F S (upd H p o1) where
  fro := fun b u q => by
    rw [upd_ne]; exact sr.fro b u q
    intro z; rw [z, sr.fnone hp] at q; cases q
  obj := fun b u q => by
    obtain ⟨h1, ho', h2, h3⟩ := sr.obj b u q
    have z : b ≠ p := by intro z; rw [z, hp] at h2; cases h2
    rw [upd_ne z]; exact ⟨h1, ho', h2, h3⟩
end
section
variable {X : Cx} {F0 : Ent} {e a b c o i lo hi : Expr} {es : List Expr} {t ta tb tv to ti : TD} {tr : TDs} {pos pos' p2 : Pos}
def tdGet (to ti : TD) : TD := fun ρ S Q => to ρ S fun x S1 => ti ρ S1 fun y S2 => ∃ a kvs k d, x = .ref a ∧ S2 a = some (.dic kvs) ∧ y = kD k ∧ valD kvs k = some d ∧ Q d S2
theorem de_get (hu : X.A.units + 1 < cLine) (ho : DE X F0 o to) (hi : DE X F0 i ti) (hs : NoSl i := by exact fun _ _ => rfl) : DE X F0 (.Subscript o i pos) (tdGet to ti) :=
  PE.weak (pe_dget hu ho hi hs) fun σ H Q ⟨F, S, ρ, Q', at0, h, p⟩ => EL.go at0 h fun v1 H1 F1 S1 d1 x1 a1 r1 q1 => EL.go a1 q1 fun v2 H2 F2 S2 d2 x2 a2 r2 ⟨b, kvs, k, d, e1, e2, e3, e4, q⟩ => by
    subst e1; subst e3
    obtain ⟨ws, h1, h2⟩ := a2.sr.dic e2
    obtain ⟨v, h3, h4⟩ := valD_rel h2 e4
    refine ⟨b, v, r1.ref_e, ?_, p.of (x1.trans x2) a2.sr h4 q⟩
    rw [kD_rel r2, ← h3]
    exact DGet.k h1
def tdDPut (to ti te : TD) : TDS := fun D ρ S => te ρ S fun v S1 => to ρ S1 fun x S2 => ti ρ S2 fun y S3 => ∃ a kvs k, x = .ref a ∧ S3 a = some (.dic kvs) ∧ y = kD k ∧ kvs.length < sizeLine ∧ D.nx ρ (sup S3 a (.dic (putD kvs k v)))
theorem ds_dput (hu : X.A.units + 1 < cLine) (ho : DE X F0 o to) (hi : DE X F0 i ti) (he : DE X F0 e t) (hs : swapsWith e (some (.Subscript o i pos')) pos.line X.env = pure false := by rfl) : DS X F0 (.Assign [.Subscript o i pos'] e pos) (tdDPut to ti t) :=
  PS.weak (ps_dput hu ho hi he hs) fun D σ H ⟨F, S, ρ, D', at0, h, p⟩ => EL.go at0 h fun v0 H0 F0 S0 d0 x0 a0 r0 q0 => EL.go a0 q0 fun v1 H1 F1 S1 d1 x1 a1 r1 q1 => EL.go a1 q1 fun v2 H2 F2 S2 d2 x2 a2 r2 ⟨b, kvs, k, e1, e2, e3, hl, q⟩ => by
    subst e1; subst e3
    obtain ⟨ws, h1, h2⟩ := a2.sr.dic e2
    have hl' : ws.length < sizeLine := by rw [h2.length, List.length_map]; exact hl
    refine ⟨b, _, r1.ref_e, ?_, p.1 _ _ _ _ _ (((x0.trans x1).trans x2).trans (a2.sr.ext_write e2)) (a2.sr.write (o := .dic _) e2 ⟨_, rfl, putD_rel (RelD.mono x2.same _ _ (RelD.mono x1.same _ _ r0)) h2⟩) a2.env q⟩
    rw [kD_rel r2]
    exact DPut.k h1 hl'
def tdDAug (to ti te : TD) (g : Int → Int → Int) : TDS := fun D ρ S => to ρ S fun x S1 => ti ρ S1 fun y S2 => ∃ a kvs k n, x = .ref a ∧ S2 a = some (.dic kvs) ∧ y = kD k ∧ valD kvs k = some (.int n) ∧
  te ρ S2 fun z S3 => ∃ m kvs', z = .int m ∧ S3 a = some (.dic kvs') ∧ kvs'.length < sizeLine ∧ D.nx ρ (sup S3 a (.dic (putD kvs' k (.int (g n m)))))
theorem ds_daug {op : Operator} {g : Int → Int → Int} {rd : V → V → Hp → VK → Prop} (hu : X.A.units + 1 < cLine) (ho : DE X F0 o to) (hi : DE X F0 i ti) (he : DE X F0 e t) (hop : InOp X op rd) (hrd : ∀ i j H (Q : VK), Q (.int (g i j)) H → rd (.int i) (.int j) H Q)
    (ha : ∀ ov iv new, augStore i ov iv new = (do holding [new, ov, iv] (setItem ov iv new); release [new, ov, iv] []; pure .next) := by intros; rfl) : DS X F0 (.AugAssign (.Subscript o i pos') op e pos) (tdDAug to ti t g) :=
  PS.weak (ps_daug hu ho hi he hop ha) fun D σ H ⟨F, S, ρ, D', at0, h, p⟩ => EL.go at0 h fun v1 H1 F1 S1 d1 x1 a1 r1 q1 => EL.go a1 q1 fun v2 H2 F2 S2 d2 x2 a2 r2 ⟨b, kvs, k, n, e1, e2, e3, e4, q⟩ => by
    subst e1; subst e3
    obtain ⟨ws, h1, h2⟩ := a2.sr.dic e2
    obtain ⟨v, h3, h4⟩ := valD_rel h2 e4
    obtain rfl := h4.int_e
    refine ⟨b, V.int n, r1.ref_e, ?_, EL.go a2 q fun v3 H3 F3 S3 d3 x3 a3 r3 ⟨m, kvs', e5, e6, hl, q⟩ => ?_⟩
    · rw [kD_rel r2, ← h3]; exact DGet.k h1
    · subst e5
      obtain rfl := r3.int_e
      obtain ⟨us, h5, h6⟩ := a3.sr.dic e6
      refine hrd _ _ _ _ ⟨upd H3 b (.dK (putK us (kk k) (.int (g n m)))), ?_, p.1 _ _ _ _ _ (((x1.trans x2).trans x3).trans (a3.sr.ext_write e6)) (a3.sr.write (o := .dic _) e6 ⟨_, rfl, putD_rel (.int_i _) h6⟩) a3.env q⟩
      rw [kD_rel r2]
      exact DPut.k h5 (by rw [h6.length, List.length_map]; exact hl)
/-- a written dict -/
def tdPairs : List (TD × TD) → Rho → Store → (List (D × D) → Store → Prop) → Prop
  | [], _, S, Q => Q [] S
  | (tk, tv) :: r, ρ, S, Q => tk ρ S fun x S1 => tv ρ S1 fun y S2 => tdPairs r ρ S2 fun ps S3 => Q ((x, y) :: ps) S3
/-- the pairs as keys and values -/
def keysD : List (D × D) → Option (List (DK × D))
  | [] => some []
  | (.int i, d) :: r => (keysD r).map ((.inl i, d) :: ·)
  | (.str t, d) :: r => (keysD r).map ((.inr t, d) :: ·)
  | _ => none
def tdDict (trs : List (TD × TD)) : TD := fun ρ S Q => tdPairs trs ρ S fun ps S2 => ∃ kvs, keysD ps = some kvs ∧ kvs.length ≤ 15 ∧ ∀ p, S2 p = none → Q (.ref p) (sup S2 p (.dic (mergeD [] kvs)))
inductive DPs (X : Cx) (F0 : Ent) (pos : Pos) : List (Option Expr) → List Expr → List (TD × TD) → Prop
  | nil : DPs X F0 pos [] [] []
  | cons {k v : Expr} {ks : List (Option Expr)} {vs : List Expr} {tk tv : TD} {trs : List (TD × TD)} : DE X F0 k tk → DE X F0 v tv → DPs X F0 pos ks vs trs → DPs X F0 pos (some k :: ks) (v :: vs) ((tk, tv) :: trs)
def RelPs (K : PySem.W.Frag) (F : Hp) : List (D × D) → List (V × V) → Prop
  | [], ws => ws = []
  | (x, y) :: r, ws => ∃ v w q, ws = (v, w) :: q ∧ RelD K F x v ∧ RelD K F y w ∧ RelPs K F r q
theorem keysD_rel {K : PySem.W.Frag} {F : Hp} : ∀ {ps : List (D × D)} {ws : List (V × V)} {kvs : List (DK × D)}, RelPs K F ps ws → keysD ps = some kvs → ∃ us : List (Key × V), ws = us.map (fun kv => (kV kv.1, kv.2)) ∧ RelF K F (kmap kvs) us
  | [], _, kvs, h, e => by cases e; rw [show _ = _ from h]; exact ⟨[], rfl, rfl⟩
  | (x, y) :: r, _, kvs, h, e => by
    obtain ⟨v, w, q, rfl, h1, h2, h3⟩ := h
    unfold keysD at e
    split at e <;> first
      | (rename_i heq; cases heq; done)
      | (cases e; done)
      | (rename_i heq
         obtain ⟨⟨rfl, rfl⟩, rfl⟩ : (_ ∧ _) ∧ _ := by simpa [Prod.ext_iff] using heq
         cases z : keysD _ with
         | none => rw [z] at e; cases e
         | some ms =>
           rw [z] at e; cases e
           obtain ⟨us, k1, k2⟩ := keysD_rel h3 z
           first
            | (obtain rfl := h1.int_e; exact ⟨(.inl _, w) :: us, by rw [k1]; rfl, w, us, rfl, h2, k2⟩)
            | (obtain rfl := h1.str_e; exact ⟨(.inr _, w) :: us, by rw [k1]; rfl, w, us, rfl, h2, k2⟩))
theorem DPs.pps {X : Cx} {F0 : Ent} {pos : Pos} {ks : List (Option Expr)} {vs : List Expr} {trs : List (TD × TD)} (h : DPs X F0 pos ks vs trs) : PPs X pos ks vs (trs.map fun p => (EL X.K F0 p.1, EL X.K F0 p.2)) := by
  induction h with
  | nil => exact pps_nil
  | cons h1 h2 _ ih => exact pps_cons h1 h2 ih
theorem pairs_go {K : PySem.W.Frag} {F0 : Ent} : ∀ {trs : List (TD × TD)} {F : Hp} {S : Store} {H : Hp} {ρ : Rho} {σ : L2.St} {R : List (V × V) → Hp → Prop} {Q1 : List (D × D) → Store → Prop}, At K F0 F S H ρ σ → tdPairs trs ρ S Q1 →
    (∀ ws H1 F1 S1 ps, Ext F S H F1 S1 H1 → At K F0 F1 S1 H1 ρ σ → RelPs K F1 ps ws → Q1 ps S1 → R ws H1) → tPairs (trs.map fun p => (EL K F0 p.1, EL K F0 p.2)) σ H R
  | [], F, S, H, ρ, σ, R, Q1, a, h, n => n [] H F S [] (Ext.refl _ _ _) a rfl h
  | (tk, tv) :: r, F, S, H, ρ, σ, R, Q1, a, h, n => by
    refine EL.go a h fun v1 H1 F1 S1 d1 x1 a1 r1 q1 => EL.go a1 q1 fun v2 H2 F2 S2 d2 x2 a2 r2 q2 => ?_
    refine pairs_go a2 q2 fun ws H3 F3 S3 ps x3 a3 r3 q3 => ?_
    exact n _ H3 F3 S3 ((d1, d2) :: ps) ((x1.trans x2).trans x3) a3 ⟨v1, v2, ws, rfl, RelD.mono x3.same _ _ (RelD.mono x2.same _ _ r1), RelD.mono x3.same _ _ r2, r3⟩ q3
theorem de_dict {keys : List (Option Expr)} {values : List Expr} {trs : List (TD × TD)} (h : DPs X F0 pos keys values trs) (hall : keys.all (·.isSome) = true := by rfl) (hl : keys.length = values.length := by rfl) (h0 : keys ≠ [] := by exact fun z => nomatch z) (h15 : keys.length ≤ 15 := by decide) : DE X F0 (.Dict keys values pos) (tdDict trs) :=
  PE.weak (pe_disp h.pps hall hl h0 h15) fun σ H Q ⟨F, S, ρ, Q', a, h, p⟩ pp hp => by
    have al : At X.K F0 F S (upd H pp (.dK [])) ρ σ := ⟨a.f0.trans (Ext.laid hp), a.sr.laid hp, a.env⟩
    refine pairs_go al h fun ws H1 F1 S1 ps x1 a1 r1 ⟨kvs, e1, e2, q⟩ => ?_
    obtain ⟨nF, nS, hH⟩ := x1.laid_none a.sr hp
    obtain ⟨us, k1, k2⟩ := keysD_rel r1 e1
    refine ⟨hH, us, k1, by rw [k2.length, List.length_map]; exact e2, ?_⟩
    exact p.of (x1.adoptS hp) (a1.sr.adoptS (o := .dic (mergeD [] kvs)) nF ⟨_, rfl, mergeD_rel k2 rfl⟩) (.ref_i _) (q pp nS)
structure Exn where
  C : Addr
  fs : List (Str × D)
def ExnRel (K : PySem.W.Frag) (F : Hp) (x : Exn) (cls : Value) (od : Option Addr) (H : Hp) : Prop :=
  cls = .ref x.C ∧ ((od = none ∧ x.fs = []) ∨ ∃ d ws, od = some d ∧ H d = some (.xd ws) ∧ RelF K F x.fs ws)
abbrev XD := Exn → Store → Prop
/-- what a def does, told over data -/
abbrev M := List D → Store → (D → Store → Prop) → XD → Prop
def EPost (K : PySem.W.Frag) (F : Hp) (S : Store) (H : Hp) (E' : XD) (E : XK) : Prop :=
  ∀ F' S' H' x cls od, Ext F S H F' S' H' → SR K F' S' H' → ExnRel K F' x cls od H' → E' x S' → E cls od H'
def spM (K : PySem.W.Frag) (m : M) (n : Nat) : Sp := fun vs H Q E => ∃ F S ds Q' E', SR K F S H ∧ RelDs K F ds vs ∧ ds.length = n ∧ m ds S Q' E' ∧ Post K F S H Q' Q ∧ EPost K F S H E' E
def DF (P : Program) (w : World) (K : PySem.W.Frag) (mg : Str → Option Value) (base : Heap) (k : Nat) (f : Addr) (fd : FuncData) (ps : List Str) (m : M) : Prop := FnD P w K mg base k f fd ps (spM K m ps.length)
theorem DF.mono {P : Program} {w : World} {K : PySem.W.Frag} {mg : Str → Option Value} {base : Heap} {j k : Nat} {f : Addr} {fd : FuncData} {ps : List Str} {m : M} (F : DF P w K mg base j f fd ps m) (h : j ≤ k) : DF P w K mg base k f fd ps m := ⟨F.many, fun A outer s H args ws us Q E hr => F.goes A outer s H args ws us Q E (hr.mono h)⟩
/-- another promise that is kept by this one -/
theorem DF.imp {P : Program} {w : World} {K : PySem.W.Frag} {mg : Str → Option Value} {base : Heap} {k : Nat} {f : Addr} {fd : FuncData} {ps : List Str} {m m' : M} (F : DF P w K mg base k f fd ps m) (h : ∀ ds S Q E, m' ds S Q E → m ds S Q E) : DF P w K mg base k f fd ps m' :=
  have z : ∀ {us : List V} {H : Hp} {Q : VK} {E : XK}, spM K m' ps.length us H Q E → spM K m ps.length us H Q E := fun ⟨F, S, ds, Q', E', h1, h2, h3, h4, h5, h6⟩ => ⟨F, S, ds, Q', E', h1, h2, h3, h _ _ _ _ h4, h5, h6⟩
  ⟨fun us H Q E q => F.many us H Q E (z q), fun A outer s H args ws us Q E hr e0 hb r hs => F.goes A outer s H args ws us Q E hr e0 hb r (z hs)⟩
/-- a def's body: its room, and what it lets out -/
structure BC (X : Cx) (F0 : Ent) (k : Nat) (E' : XD) : Prop where
  room : Rm k X.A
  calm : X.calm = true
  take : ∃ W : WX, Takes X W ∧ ∀ F' S' H' x cls od (σ : L2.St), σ.length = X.N.length → Ext F0.F F0.S F0.H F' S' H' → SR X.K F' S' H' → ExnRel X.K F' x cls od H' → E' x S' → W cls od σ H'
theorem BC.mono {X : Cx} {F0 : Ent} {j k : Nat} {E' : XD} (B : BC X F0 k E') (h : j ≤ k) : BC X F0 j E' := ⟨B.room.mono h, B.calm, B.take⟩
theorem BC.units {X : Cx} {F0 : Ent} {k : Nat} {E' : XD} (B : BC X F0 k E') : X.A.units + 64 < cLine := (B.room.room (Nat.zero_le _)).units
theorem BC.units1 {X : Cx} {F0 : Ent} {k : Nat} {E' : XD} (B : BC X F0 k E') : X.A.units + 1 < cLine := hu_of (B.room.room (Nat.zero_le _))
theorem takes_len {X : Cx} {W : WX} (t : Takes X W) : Takes X (fun c d σ H => σ.length = X.N.length → W c d σ H) := fun u s' ⟨a, B, sI, pins, σ, H, cls, d, e, I, nb, up, sky, na, os, ag, w⟩ =>
  t u s' ⟨a, B, sI, pins, σ, H, cls, d, e, I, nb, up, sky, na, os, ag, w I.len⟩
theorem BC.pass {X : Cx} {F0 : Ent} {k : Nat} {E' : XD} (B : BC X F0 k E') : ∃ E : XK, Passes (L2.CX X.prog X.w) X E ∧ ∀ F' S' H' x cls od, Ext F0.F F0.S F0.H F' S' H' → SR X.K F' S' H' → ExnRel X.K F' x cls od H' → E' x S' → E cls od H' := by
  obtain ⟨W, tk, hW⟩ := B.take
  exact ⟨fun cls d H => ∀ σ : L2.St, σ.length = X.N.length → W cls d σ H, passes_call (takes_len tk) (fun cls d σ H h hl => h σ hl), fun F' S' H' x cls od xx sr er q σ hl => hW F' S' H' x cls od σ hl xx sr er q⟩
theorem BC.imp {X : Cx} {F0 : Ent} {k : Nat} {E' E'' : XD} (B : BC X F0 k E') (h : ∀ x S, E'' x S → E' x S) : BC X F0 k E'' := by
  obtain ⟨W, tk, hW⟩ := B.take
  exact ⟨B.room, B.calm, W, tk, fun F' S' H' x cls od σ hl xx sr er q => hW F' S' H' x cls od σ hl xx sr er (h _ _ q)⟩
/-- nothing is let out -/
abbrev noX : XD := fun _ _ => False
theorem BC.none {X : Cx} {F0 : Ent} {k : Nat} (hr : Rm k X.A) (hc : X.calm = true) : BC X F0 k noX := ⟨hr, hc, fun _ _ _ _ => False, fun u s' ⟨a, B, sI, pins, σ, H, cls, d, e, I, nb, up, sky, na, os, ag, w⟩ => w.elim, fun _ _ _ _ _ _ _ _ _ _ _ z => z⟩
def tdCall (m : M) (n : Nat) (E' : XD) (t : TDs) : TD := fun ρ S Q => t ρ S fun ds S1 => ds.length = n ∧ m ds S1 Q E'
variable {k : Nat} {E' : XD} {f C : Addr} {fd : FuncData} {ps : List Str} {m : M} {x mn : Str} {apos p : Pos}
theorem call_go {ta : TA} {σ : L2.St} {H : Hp} {Q : VK} {E : XK} (hE : ∀ F' S' H' x cls od, Ext F0.F F0.S F0.H F' S' H' → SR X.K F' S' H' → ExnRel X.K F' x cls od H' → E' x S' → E cls od H')
    {n : Nat} (h : EL X.K F0 (tdCall m n E' tr) σ H Q) (hta : ∀ σ H R, AL X.K F0 tr σ H R → ta σ H R) : tCall (spM X.K m n) [] E ta σ H Q := by
  obtain ⟨F, S, ρ, Q', a, h, p⟩ := h
  refine hta _ _ _ (AL.go a h fun vs H1 F1 S1 ds x1 a1 r1 ⟨q0, q1⟩ => ?_)
  rw [List.append_nil]
  exact ⟨F1, S1, ds, Q', E', a1.sr, r1, q0, q1, p.ext x1, fun F' S' H' y cls od z sr er q => hE F' S' H' y cls od (a1.f0.trans z) sr er q⟩
theorem de_call (G : DF X.prog X.w X.K X.mg X.base k f fd ps m) (B : BC X F0 k E') (hg : Gl X x) (hm : X.mg x = some (.ref f)) (hk : PySem.W.keepIn X.K (.ref f) = true) (hb : Binds X.K fd ps []) (ha : DA X F0 (e :: es) tr)
    (hdb : (x == ("__debug__" : Str)) = false := by decide) (he : starEach (e :: es) X.env = (false, eval e X.env) :: starEach es X.env := by rfl) (hpl : (backTo pos (starEach es X.env)).any (·.1) = false := by rfl) :
    DE X F0 (.Call (.Name x p) (e :: es) [] pos) (tdCall m ps.length E' tr) := by
  obtain ⟨E, hp, hE⟩ := B.pass
  exact PE.weak (pd_call (E := E) G B.room hg hm hk hb hp ha hdb he hpl) fun σ H Q h => call_go hE h fun _ _ _ z => z
theorem de_call0 (G : DF X.prog X.w X.K X.mg X.base k f fd ps m) (B : BC X F0 k E') (hg : Gl X x) (hm : X.mg x = some (.ref f)) (hk : PySem.W.keepIn X.K (.ref f) = true) (hb : Binds X.K fd ps [])
    (hdb : (x == ("__debug__" : Str)) = false := by decide) : DE X F0 (.Call (.Name x p) [] [] pos) (tdCall m ps.length E' tdNil) := by
  obtain ⟨E, hp, hE⟩ := B.pass
  exact PE.weak (pd_call0 (E := E) G B.room hg hm hk hb hp hdb) fun σ H Q h => call_go (tr := tdNil) hE h fun σ H R ⟨F, S, ρ, Q', a, q, p⟩ => p [] H F S [] (Ext.refl _ _ _) a.sr .nil q
/-- o.m(..) -/
def tdMeth (C : Addr) (mn : Str) (m : M) (n : Nat) (E' : XD) (to : TD) (t : TDs) : TD := fun ρ S Q => to ρ S fun x S1 => ∃ a fs, x = .ref a ∧ S1 a = some (.ins C fs) ∧ fs.lookup mn = none ∧ t ρ S1 fun ds S2 => ds.length + 1 = n ∧ m (x :: ds) S2 Q E'
theorem meth_go {ta : TA} {σ : L2.St} {H : Hp} {Q : VK} {E : XK} (hE : ∀ F' S' H' x cls od, Ext F0.F F0.S F0.H F' S' H' → SR X.K F' S' H' → ExnRel X.K F' x cls od H' → E' x S' → E cls od H')
    {n : Nat} (h : EL X.K F0 (tdMeth C mn m n E' to tr) σ H Q) (hta : ∀ σ H R, AL X.K F0 tr σ H R → ta σ H R) : tMeth C mn (spM X.K m n) [] E (EL X.K F0 to) ta σ H Q := by
  obtain ⟨F, S, ρ, Q', a, h, p⟩ := h
  refine EL.go a h fun v H1 F1 S1 d x1 a1 r1 ⟨b, fs, e1, e2, e3, q1⟩ => ?_
  subst e1
  obtain ⟨dx, ws, h1, h2⟩ := a1.sr.ins e2
  refine ⟨b, dx, ws, r1.ref_e, h1, h2.lookup_none e3, hta _ _ _ (AL.go a1 q1 fun vs H2 F2 S2 ds x2 a2 r2 ⟨q0, q2⟩ => ?_)⟩
  rw [List.append_nil]
  exact ⟨F2, S2, _, Q', E', a2.sr, .cons (RelD.mono x2.same _ _ r1) r2, q0, q2, p.ext (x1.trans x2), fun F' S' H' y cls od z sr er q => hE F' S' H' y cls od (a2.f0.trans z) sr er q⟩
theorem de_meth {pl : Sem Bool} (ho : DE X F0 o to) (c : Cls X.K C) (hm : Meth X.K C mn f) (G : DF X.prog X.w X.K X.mg X.base k f fd ps m) (B : BC X F0 k E') (hb : Binds X.K fd ps []) (ha : DA X F0 (e :: es) tr)
    (hst : starEach (e :: es) X.env = (false, eval e X.env) :: starEach es X.env := by rfl) (hpl : (backTo pos (starEach es X.env)).any (·.1) = false := by rfl)
    (ht : eval (.Call (.Attribute o mn apos) (e :: es) [] pos) X.env = (do
      let ov ← eval o X.env
      standAt apos.atName
      let (f, first) ← holding [ov] (getMethod ov mn pl)
      callWith pos f first (backTo pos (starEach (e :: es) X.env)) (backToKw pos (keywordEach [] X.env))) := by rfl) : DE X F0 (.Call (.Attribute o mn apos) (e :: es) [] pos) (tdMeth C mn m ps.length E' to tr) := by
  obtain ⟨E, hp, hE⟩ := B.pass
  exact PE.weak (pd_meth (E := E) ho c hm G B.room hb hp ha hst hpl ht) fun σ H Q h => meth_go hE h fun _ _ _ z => z
theorem de_meth0 {pl : Sem Bool} (ho : DE X F0 o to) (c : Cls X.K C) (hm : Meth X.K C mn f) (G : DF X.prog X.w X.K X.mg X.base k f fd ps m) (B : BC X F0 k E') (hb : Binds X.K fd ps [])
    (ht : eval (.Call (.Attribute o mn apos) [] [] pos) X.env = (do
      let ov ← eval o X.env
      standAt apos.atName
      let (f, first) ← holding [ov] (getMethod ov mn pl)
      callWith pos f first (backTo pos (starEach [] X.env)) (backToKw pos (keywordEach [] X.env))) := by rfl) : DE X F0 (.Call (.Attribute o mn apos) [] [] pos) (tdMeth C mn m ps.length E' to tdNil) := by
  obtain ⟨E, hp, hE⟩ := B.pass
  exact PE.weak (pd_meth0 (E := E) ho c hm G B.room hb hp ht) fun σ H Q h => meth_go hE h fun σ H R ⟨F, S, ρ, Q', a, q, p⟩ => p [] H F S [] (Ext.refl _ _ _) a.sr .nil q
/-- C(..) -/
def tdMake (C : Addr) (m : M) (n : Nat) (E' : XD) (t : TDs) : TD := fun ρ S Q => t ρ S fun ds S1 => ds.length + 1 = n ∧ ∀ a, S1 a = none → m (.ref a :: ds) (sup S1 a (.ins C [])) (fun d S2 => d = .non ∧ Q (.ref a) S2) E'
theorem make_go {ta : TA} {σ : L2.St} {H : Hp} {Q : VK} {E : XK} (hE : ∀ F' S' H' x cls od, Ext F0.F F0.S F0.H F' S' H' → SR X.K F' S' H' → ExnRel X.K F' x cls od H' → E' x S' → E cls od H')
    {n : Nat} (h : EL X.K F0 (tdMake C m n E' tr) σ H Q) (hta : ∀ σ H R, AL X.K F0 tr σ H R → ta σ H R) : tMake C (spM X.K m n) [] E ta σ H Q := by
  obtain ⟨F, S, ρ, Q', a, h, p⟩ := h
  refine hta _ _ _ (AL.go a h fun vs H1 F1 S1 ds x1 a1 r1 ⟨q0, q1⟩ y dx hy hdx hne => ?_)
  rw [List.append_nil]
  have sr1 : SR X.K F1 S1 (upd H1 dx (.own y)) := a1.sr.laid hdx
  have hy1 : (upd H1 dx (.own y)) y = none := by rw [upd_ne hne.symm]; exact hy
  have xl : Ext F1 S1 H1 F1 S1 (upd H1 dx (.own y)) := by
    refine ⟨Same.refl _, fun b u q _ => ?_, fun _ q g => absurd g q, fun _ q => .inl q⟩
    rw [upd_ne]; exact q
    intro z; rw [z, hdx] at q; cases q
  have sr2 := sr1.box (o := .ins C []) (ho := .ins C dx []) hy1 ⟨dx, [], rfl, rfl⟩
  have x2 := xl.trans (sr1.ext_box (o := .ins C []) (ho := .ins C dx []) hy1)
  refine ⟨F1, _, _, _, E', sr2, .cons (.ref_i y) r1, q0, q1 y (a1.sr.snone hy), fun v H' F' S' d z sr rd ⟨e1, q⟩ => ?_, fun F' S' H' w cls od z sr er q => ?_⟩
  · subst e1
    exact ⟨rd.non_e, p.of ((x1.trans x2).trans z) sr (.ref_i y) q⟩
  · exact hE F' S' H' w cls od (a1.f0.trans (x2.trans z)) sr er q
theorem de_make (Mk' : Mk X.K C f) (G : DF X.prog X.w X.K X.mg X.base k f fd ps m) (B : BC X F0 (k + 1) E') (hg : Gl X x) (hm : X.mg x = some (.ref C)) (hb : Binds X.K fd ps []) (ha : DA X F0 (e :: es) tr)
    (hdb : (x == ("__debug__" : Str)) = false := by decide) (he : starEach (e :: es) X.env = (false, eval e X.env) :: starEach es X.env := by rfl) (hpl : (backTo pos (starEach es X.env)).any (·.1) = false := by rfl) :
    DE X F0 (.Call (.Name x p) (e :: es) [] pos) (tdMake C m ps.length E' tr) := by
  obtain ⟨E, hp, hE⟩ := B.pass
  exact PE.weak (pd_make (E := E) Mk' G B.room hg hm hb hp ha hdb he hpl) fun σ H Q h => make_go hE h fun _ _ _ z => z
end
end DL
namespace DL
open PySem PySem.Spec L2
/-- an iterator that walks the data ds while the frozen heap stands -/
structure Iters (K : PySem.W.Frag) (F : Hp) (J : It) (ds : List D) : Prop where
  go : ∀ i H, Same F H → i < ds.length → J.go i H
  stop : ∀ i H, Same F H → ds.length ≤ i → J.stop i H
  yld : ∀ i x H H' F2 S, Same F F2 → SR K F2 S H → J.yld i H x H' → i < ds.length → ∃ F3 d, Ext F2 S H F3 S H' ∧ SR K F3 S H' ∧ ds[i]? = some d ∧ RelD K F3 d x
abbrev TDI := Rho → Store → (List D → Store → Prop) → Prop
def IL (K : PySem.W.Frag) (F0 : Ent) (t : TDI) : TI := fun σ H R => ∃ F S ρ Q', At K F0 F S H ρ σ ∧ t ρ S Q' ∧ ∀ J H' F' S' ds, Ext F S H F' S' H' → SR K F' S' H' → Iters K F' J ds → Q' ds S' → R J H'
def DI (X : Cx) (F0 : Ent) (tg it : Expr) (t : TDI) : Prop := PI X tg it (IL X.K F0 t)
theorem PI.weak {X : Cx} {tg it : Expr} {w w' : TI} (h : PI X tg it w) (k : ∀ σ H R, w' σ H R → w σ H R) : PI X tg it w' := ⟨fun pins s σ H R I q => h.run pins s σ H R I (k _ _ _ q)⟩
theorem IL.go {K : PySem.W.Frag} {F0 : Ent} {F : Hp} {S : Store} {H : Hp} {ρ : Rho} {σ : L2.St} {t : TDI} {R : It → Hp → Prop} {Q1 : List D → Store → Prop} (a : At K F0 F S H ρ σ) (h : t ρ S Q1)
    (n : ∀ J H1 F1 S1 ds, Ext F S H F1 S1 H1 → At K F0 F1 S1 H1 ρ σ → Iters K F1 J ds → Q1 ds S1 → R J H1) : IL K F0 t σ H R :=
  ⟨F, S, ρ, Q1, a, h, fun J H1 F1 S1 ds x r it q => n J H1 F1 S1 ds x (a.next x r) it q⟩
section
variable {K : PySem.W.Frag} {F : Hp}
theorem Iters.lst {a : Addr} {vs : List V} {ds : List D} (h : ∀ H, Same F H → SqL K H a vs) (r : RelDs K F ds vs) : Iters K F (Itl K a) ds where
  go := fun i H sm hi => by
    obtain ⟨v, h1, h2⟩ := r.get (List.getElem?_eq_getElem hi)
    exact ⟨vs, v, h H sm, h1⟩
  stop := fun i H sm hi => ⟨vs, h H sm, by rw [r.length]; exact hi⟩
  yld := fun i x H H' F2 S sm sr y hi => by
    obtain ⟨rfl, y⟩ := y
    obtain ⟨d, h1, h2⟩ := r.get' (y vs (h _ (sm.trans sr.fro)))
    exact ⟨F2, d, Ext.refl _ _ _, sr, h1, RelD.mono sm _ _ h2⟩
theorem Iters.tup {a : Addr} {vs : List V} {ds : List D} (h : ∀ H, Same F H → SqT K H a vs) (r : RelDs K F ds vs) : Iters K F (Itt K a) ds where
  go := fun i H sm hi => by
    obtain ⟨v, h1, h2⟩ := r.get (List.getElem?_eq_getElem hi)
    exact ⟨vs, v, h H sm, h1⟩
  stop := fun i H sm hi => ⟨vs, h H sm, by rw [r.length]; exact hi⟩
  yld := fun i x H H' F2 S sm sr y hi => by
    obtain ⟨rfl, y⟩ := y
    obtain ⟨d, h1, h2⟩ := r.get' (y vs (h _ (sm.trans sr.fro)))
    exact ⟨F2, d, Ext.refl _ _ _, sr, h1, RelD.mono sm _ _ h2⟩
/-- the ints of a range -/
def rngD (lo : Int) (n : Nat) : List D := (List.range n).map fun (i : Nat) => D.int (lo + (i : Int))
theorem Iters.rng (lo : Int) (n : Nat) : Iters K F (Itr lo n) (rngD lo n) where
  go := fun i H _ hi => by
    have h : i < n := by simpa [rngD] using hi
    exact h
  stop := fun i H _ hi => by
    have h : n ≤ i := by simpa [rngD] using hi
    exact h
  yld := fun i x H H' F2 S sm sr y hi => by
    obtain ⟨rfl, rfl⟩ := y
    have hi' : i < n := by simpa [rngD] using hi
    exact ⟨F2, .int (lo + i), Ext.refl _ _ _, sr, by simp [rngD, hi'], .int_i _⟩
end
section
variable {X : Cx} {F0 : Ent} {tg e it : Expr} {es : List Expr} {t : TD} {tr : TDs} {pos : Pos}
def tdiL (t : TD) : TDI := fun ρ S Q => t ρ S fun x S1 => match x with
  | .lst ds => Q ds S1
  | _ => False
def tdiT (t : TD) : TDI := fun ρ S Q => t ρ S fun x S1 => match x with
  | .tup ds => Q ds S1
  | _ => False
theorem di_lst (he : DE X F0 e t) : DI X F0 tg e (tdiL t) := PI.weak (pi_list he) fun σ H R ⟨F, S, ρ, Q', a, h, p⟩ => EL.go a h fun v H1 F1 S1 d x1 a1 r1 q1 => by
  split at q1
  · obtain ⟨b, vs, rfl, h1, h2⟩ := r1.lst_e
    exact ⟨b, rfl, ⟨vs, .of (a1.sr.fro _ _ h1)⟩, p _ _ _ _ _ x1 a1.sr (.lst (fun H sm => .of (sm _ _ h1)) h2) q1⟩
  · exact q1.elim
theorem di_tup (he : DE X F0 e t) : DI X F0 tg e (tdiT t) := PI.weak (pi_tup he) fun σ H R ⟨F, S, ρ, Q', a, h, p⟩ => EL.go a h fun v H1 F1 S1 d x1 a1 r1 q1 => by
  split at q1
  · obtain ⟨b, vs, rfl, h1, h2⟩ := r1.tup_e
    exact ⟨b, rfl, ⟨vs, seqT a1.sr.fro h1⟩, p _ _ _ _ _ x1 a1.sr (.tup (fun H sm => seqT sm h1) h2) q1⟩
  · exact q1.elim
def tdiR (t : TDs) : TDI := fun ρ S Q => t ρ S fun ds S1 => match ds with
  | [.int j] => -(2 ^ 62) ≤ j ∧ j < 2 ^ 62 ∧ Q (rngD 0 j.toNat) S1
  | _ => False
theorem di_rng {a : Expr} {p : Pos} (hg : Gl X "range") (hm : X.mg "range" = none) (ha : DA X F0 [a] tr) (hs : starEach [a] X.env = [(false, eval a X.env)] := by rfl) : DI X F0 tg (.Call (.Name "range" p) [a] [] pos) (tdiR tr) :=
  PI.weak (pi_range1 hg hm ha hs) fun σ H R ⟨F, S, ρ, Q', a, h, p⟩ => AL.go a h fun vs H1 F1 S1 ds x1 a1 r1 q1 => by
    split at q1
    · obtain ⟨v, rfl, rv⟩ := rds1 r1
      obtain rfl := rv.int_e
      exact ⟨_, rfl, q1.1, q1.2.1, p _ _ _ _ _ x1 a1.sr (.rng _ _) q1.2.2⟩
    · exact q1.elim
def tdiR2 (t : TDs) : TDI := fun ρ S Q => t ρ S fun ds S1 => match ds with
  | [.int i, .int j] => (-(2 ^ 62) ≤ i ∧ i < 2 ^ 62 ∧ -(2 ^ 62) ≤ j ∧ j < 2 ^ 62) ∧ Q (rngD i (j - i).toNat) S1
  | _ => False
theorem di_rng2 {a b : Expr} {p : Pos} (hg : Gl X "range") (hm : X.mg "range" = none) (ha : DA X F0 [a, b] tr) (hs : starEach [a, b] X.env = [(false, eval a X.env), (false, eval b X.env)] := by rfl) (hs2 : starEach [b] X.env = [(false, eval b X.env)] := by rfl) : DI X F0 tg (.Call (.Name "range" p) [a, b] [] pos) (tdiR2 tr) :=
  PI.weak (pi_range2 hg hm ha hs hs2) fun σ H R ⟨F, S, ρ, Q', a, h, p⟩ => AL.go a h fun vs H1 F1 S1 ds x1 a1 r1 q1 => by
    split at q1
    · obtain ⟨v, w, rfl, rv, rw'⟩ := rds2 r1
      obtain rfl := rv.int_e
      obtain rfl := rw'.int_e
      exact ⟨_, _, rfl, q1.1, p _ _ _ _ _ x1 a1.sr (.rng _ _) q1.2⟩
    · exact q1.elim
def forR (g : TDG) (tb : TDS) (D : DEnds) : List DL.D → Rho → Store → Prop
  | [], ρ, S => D.nx ρ S
  | d :: ds, ρ, S => g d ρ S fun ρ1 S1 => tb { D with nx := forR g tb D ds, ct := forR g tb D ds, bk := D.nx } ρ1 S1
def tdFor (ti : TDI) (g : TDG) (tb : TDS) : TDS := fun D ρ S => ti ρ S fun ds S1 => forR g tb D ds ρ S1
theorem ds_for {iter : Expr} {body : List Stmt} {ti : TDI} {g : TDG} {tb : TDS} (hp : PassesOwn (model X.prog X.w) X.A X.env X.xe) (hc : X.calm = true) (hi : DI X F0 tg iter ti) (hg : DG X F0 tg g) (hb : DSs X F0 body tb)
    (hs : ∀ x, foldedSetIterable iter X.env x = pure x := by intro _; rfl) : DS X F0 (.For tg iter body [] pos) (tdFor ti g tb) :=
  PS.weak (ps_for hp hc hi hg hb hs) fun D σ H ⟨F, S, ρ, D', a, h, p⟩ => IL.go a h fun J H1 F1 S1 ds x1 a1 it q1 => by
    refine ⟨fun i m σ H => m = ds.length - i ∧ i ≤ ds.length ∧ ∃ F S ρ, Ext F1 S1 H1 F S H ∧ At X.K F0 F S H ρ σ ∧ forR g tb D' (ds.drop i) ρ S, ⟨ds.length, by omega, Nat.zero_le _, F1, S1, ρ, Ext.refl _ _ _, a1, q1⟩, ?_⟩
    rintro i m σ2 H2 ⟨rfl, hi, F2, S2, ρ2, x2, a2, q2⟩
    have sm : Same F1 H2 := x2.same.trans a2.sr.fro
    by_cases hlt : i < ds.length
    · refine .inr ⟨it.go i H2 sm hlt, fun σ H => ∃ F S ρ, Ext F1 S1 H1 F S H ∧ At X.K F0 F S H ρ σ ∧ forR g tb D' (ds.drop (i + 1)) ρ S, fun σ' H' n => ⟨ds.length - (i + 1), by omega, rfl, hlt, n⟩, fun x H' y => ?_⟩
      obtain ⟨F3, d, x3, sr3, hd, rd⟩ := it.yld i x H2 H' F2 S2 x2.same a2.sr y hlt
      have e : ds.drop i = d :: ds.drop (i + 1) := by
        rw [List.drop_eq_getElem_cons hlt]
        congr 1
        rw [List.getElem?_eq_getElem hlt] at hd
        exact Option.some.inj hd
      rw [e] at q2
      have a3 := a2.next x3 sr3
      refine ⟨F3, S2, ρ2, d, _, a3, rd, q2, fun σ4 H4 F4 S4 ρ4 x4 sr4 ev4 q4 => ?_⟩
      have x14 := (x2.trans x3).trans x4
      have a4 : At X.K F0 F4 S4 H4 ρ4 σ4 := ⟨a3.f0.trans x4, sr4, ev4⟩
      refine ⟨F4, S4, ρ4, _, a4, q4, ?_, ?_, ?_, ?_⟩
      · intro σ5 H5 F5 S5 ρ5 x5 sr5 ev5 q5
        exact ⟨F5, S5, ρ5, x14.trans x5, ⟨a4.f0.trans x5, sr5, ev5⟩, q5⟩
      · intro v5 H5 F5 S5 d5 x5 sr5 rd5 q5
        exact p.2.1 _ _ _ _ _ (x1.trans (x14.trans x5)) sr5 rd5 q5
      · intro σ5 H5 F5 S5 ρ5 x5 sr5 ev5 q5
        exact p.1 _ _ _ _ _ (x1.trans (x14.trans x5)) sr5 ev5 q5
      · intro σ5 H5 F5 S5 ρ5 x5 sr5 ev5 q5
        exact ⟨F5, S5, ρ5, x14.trans x5, ⟨a4.f0.trans x5, sr5, ev5⟩, q5⟩
    · refine .inl ⟨it.stop i H2 sm (by omega), ?_⟩
      rw [List.drop_eq_nil_of_le (by omega)] at q2
      exact p.nx (x1.trans x2) a2 q2
def whileN (c : TDT) (tb : TDS) (D : DEnds) : Nat → Rho → Store → Prop
  | 0, _, _ => False
  | n + 1, ρ, S => c ρ S fun b S1 => if b = true then tb { D with nx := whileN c tb D n, ct := whileN c tb D n, bk := D.nx } ρ S1 else D.nx ρ S1
def tdWhile (c : TDT) (tb : TDS) : TDS := fun D ρ S => ∃ n, whileN c tb D n ρ S
theorem ds_while {c : Expr} {body : List Stmt} {tc : TDT} {tb : TDS} (hp : PassesOwn (model X.prog X.w) X.A X.env X.xe) (hc : DT X F0 c tc) (hb : DSs X F0 body tb) : DS X F0 (.While c body [] pos) (tdWhile tc tb) :=
  PS.weak (ps_while hp hc hb) fun D σ H ⟨F1, S1, ρ, D', a1, ⟨n, h⟩, p⟩ => by
    refine ⟨fun m σ H' => ∃ F S ρ, Ext F1 S1 H F S H' ∧ At X.K F0 F S H' ρ σ ∧ whileN tc tb D' m ρ S, ⟨n, F1, S1, ρ, Ext.refl _ _ _, a1, h⟩, ?_⟩
    rintro m σ2 H2 ⟨F2, S2, ρ2, x2, a2, q2⟩
    cases m with
    | zero => exact q2.elim
    | succ m =>
      refine TL.go a2 q2 fun b H3 F3 S3 x3 a3 q3 => ?_
      cases b with
      | false => exact iteF (p.nx (x2.trans x3) a3 q3)
      | true =>
        refine iteT ⟨fun σ H' => ∃ F S ρ, Ext F1 S1 H F S H' ∧ At X.K F0 F S H' ρ σ ∧ whileN tc tb D' m ρ S, fun σ' H' q => ⟨m, Nat.lt_succ_self _, q⟩, F3, S3, ρ2, _, a3, q3, ?_, ?_, ?_, ?_⟩
        · intro σ5 H5 F5 S5 ρ5 x5 sr5 ev5 q5
          exact ⟨F5, S5, ρ5, (x2.trans x3).trans x5, ⟨a3.f0.trans x5, sr5, ev5⟩, q5⟩
        · intro v5 H5 F5 S5 d5 x5 sr5 rd5 q5
          exact p.2.1 _ _ _ _ _ ((x2.trans x3).trans x5) sr5 rd5 q5
        · intro σ5 H5 F5 S5 ρ5 x5 sr5 ev5 q5
          exact p.1 _ _ _ _ _ ((x2.trans x3).trans x5) sr5 ev5 q5
        · intro σ5 H5 F5 S5 ρ5 x5 sr5 ev5 q5
          exact ⟨F5, S5, ρ5, (x2.trans x3).trans x5, ⟨a3.f0.trans x5, sr5, ev5⟩, q5⟩
def lcR (v : Nat) (tt : TDT) (te : TD) (ρ : Rho) : List D → List D → Store → (List D → Store → Prop) → Prop
  | [], acc, S, Q => Q acc S
  | d :: ds, acc, S, Q => tt (ρ.set v (some d)) S fun b S1 => if b = true then te (ρ.set v (some d)) S1 fun y S2 => acc.length < sizeLine ∧ lcR v tt te ρ ds (acc ++ [y]) S2 Q else lcR v tt te ρ ds acc S1 Q
def tdLc (ti : TDI) (v : Nat) (tt : TDT) (te : TD) : TD := fun ρ S Q => ti ρ S fun ds S1 => lcR v tt te ρ ds [] S1 fun ys S2 => Q (.lst ys) S2
def DTs (X : Cx) (F0 : Ent) (ifs : List Expr) (t : TDT) : Prop := PTs X ifs (TL X.K F0 t)
def tdYes : TDT := fun _ S Q => Q true S
theorem PTs.weak {ifs : List Expr} {t t' : TT} (h : PTs X ifs t) (w : ∀ σ H Q, t' σ H Q → t σ H Q) : PTs X ifs t' := ⟨fun pins s σ H Q I q => h.run pins s σ H Q I (w _ _ _ q)⟩
theorem dts_nil : DTs X F0 [] tdYes := PTs.weak pts_nil fun σ H Q ⟨F, S, ρ, Q', a, h, p⟩ => p true H F S (Ext.refl _ _ _) a.sr h
theorem dts_one {c : Expr} {tt : TDT} (h : DT X F0 c tt) : DTs X F0 [c] tt := pts_one h
theorem Ext.reset {K : PySem.W.Frag} {F1 F : Hp} {S1 S : Store} {H1 H : Hp} {p : Addr} {o1 o2 : HO} (x : Ext F1 S1 (upd H1 p o1) F S H) : Ext F1 S1 (upd H1 p o2) F S (upd H p o2) where
  same := x.same
  off := fun b u q n => by
    by_cases z : b = p
    · subst z; rw [upd_same] at q ⊢; exact q
    · rw [upd_ne z] at q ⊢; exact x.off b u (by rw [upd_ne z]; exact q) n
  newF := fun b q g => by
    rcases x.newF b q g with z | z
    · exact .inl z
    · by_cases e : b = p
      · subst e; rw [upd_same] at z; cases z
      · rw [upd_ne e] at z ⊢; exact .inr z
  newS := fun b q => by
    rcases x.newS b q with z | z
    · exact .inl z
    · by_cases e : b = p
      · subst e; rw [upd_same] at z; cases z
      · rw [upd_ne e] at z ⊢; exact .inr z
theorem SR.re {K : PySem.W.Frag} {F : Hp} {S : Store} {H : Hp} {p : Addr} {o : HO} (sr : SR K F S H) (hF : F p = none) (hS : S p = none) : SR K F S (upd H p o) where
  fro := fun b u q => by
    rw [upd_ne]; exact sr.fro b u q
    intro z; rw [z, hF] at q; cases q
  obj := fun b u q => by
    obtain ⟨h1, ho', h2, h3⟩ := sr.obj b u q
    have z : b ≠ p := by intro z; rw [z, hS] at q; cases q
    rw [upd_ne z]; exact ⟨h1, ho', h2, h3⟩
theorem upd_id {H : Hp} {a : Addr} {o : HO} (h : H a = some o) : upd H a o = H := by
  funext b; unfold upd
  by_cases e : b = a
  · rw [if_pos e, e, h]
  · rw [if_neg e]
theorem lc_go {ti : TDI} {v : Nat} {tt : TDT} {te : TD} {K : PySem.W.Frag} {σ : L2.St} {H : Hp} {Q : VK} (h : EL K F0 (tdLc ti v tt te) σ H Q) : tLc (IL K F0 ti) (gName v) (TL K F0 tt) (EL K F0 te) [v] σ H Q := by
  obtain ⟨F, S, ρ, Q', a, h, p⟩ := h
  refine IL.go a h fun J H1 F1 S1 ds x1 a1 it q1 D hD => ?_
  refine ⟨fun i m H => m = ds.length - i ∧ i ≤ ds.length ∧ ∃ F S acc vs, Ext F1 S1 (upd H1 D (.lst vs)) F S H ∧ SR K F S H ∧ RelDs K F acc vs ∧ lcR v tt te ρ (ds.drop i) acc S fun ys S2 => Q' (.lst ys) S2,
    ⟨ds.length, by omega, Nat.zero_le _, F1, S1, [], [], Ext.refl _ _ _, a1.sr.laid hD, .nil, q1⟩, ?_⟩
  rintro i m H2 ⟨rfl, hi, F2, S2, acc, vs, x2, sr2, racc, q2⟩
  have sm : Same F1 H2 := x2.same.trans sr2.fro
  obtain ⟨nF, nS, hH⟩ := x2.laid_none a1.sr hD
  by_cases hlt : i < ds.length
  · refine .inr ⟨it.go i H2 sm hlt, fun H => ∃ F S acc vs, Ext F1 S1 (upd H1 D (.lst vs)) F S H ∧ SR K F S H ∧ RelDs K F acc vs ∧ lcR v tt te ρ (ds.drop (i + 1)) acc S fun ys S2 => Q' (.lst ys) S2, fun H' n => ⟨ds.length - (i + 1), by omega, rfl, hlt, n⟩, fun x H' y => ?_⟩
    obtain ⟨F3, d, x3, sr3, hd, rd⟩ := it.yld i x H2 H' F2 S2 x2.same sr2 y hlt
    have e : ds.drop i = d :: ds.drop (i + 1) := by
      rw [List.drop_eq_getElem_cons hlt]
      congr 1
      rw [List.getElem?_eq_getElem hlt] at hd
      exact Option.some.inj hd
    rw [e] at q2
    have x13 : Ext F1 S1 (upd H1 D (.lst vs)) F3 S2 H' := x2.trans x3
    have a3 : At K F0 F3 S2 H' (ρ.set v (some d)) ((wipe σ [v]).set v (some x)) := by
      refine ⟨a1.f0.trans ((Ext.laid hD).trans x13), sr3, ?_⟩
      have h0 : (wipe σ [v]).set v (some x) = σ.set v (some x) := by
        show (σ.set v none).set v (some x) = _
        rw [List.set_set]
      rw [h0]
      exact (a1.env.mono x13.same).set rd v
    refine ⟨?_, ?_⟩
    · show ((σ.set v none).set v (some x)).set v none = σ.set v none
      rw [List.set_set, List.set_set]
    · refine TL.go a3 q2 fun b H4 F4 S4 x4 a4 q4 => ?_
      cases b with
      | false => exact iteF ⟨F4, S4, acc, vs, x13.trans x4, a4.sr, RelDs.mono x4.same _ _ (RelDs.mono x3.same _ _ racc), q4⟩
      | true =>
        refine iteT (EL.go a4 q4 fun w H5 F5 S5 yd x5 a5 r5 ⟨hl, q5⟩ => ?_)
        have x15 := (x13.trans x4).trans x5
        obtain ⟨nF5, nS5, hH5⟩ := x15.laid_none a1.sr hD
        have racc5 := RelDs.mono x5.same _ _ (RelDs.mono x4.same _ _ (RelDs.mono x3.same _ _ racc))
        refine ⟨vs, hH5, by rw [racc5.length]; exact hl, ?_⟩
        exact ⟨F5, S5, acc ++ [yd], vs ++ [w], Ext.reset (K := K) x15, a5.sr.re nF5 nS5, racc5.append (.cons r5 .nil), q5⟩
  · refine .inl ⟨it.stop i H2 sm (by omega), ?_⟩
    rw [List.drop_eq_nil_of_le (by omega)] at q2
    obtain ⟨k1, k2⟩ := sr2.adoptF (ho := .lst vs) nF nS
    have k3 := x2.adoptF (ho := .lst vs) hD nF
    rw [upd_id hH] at k1 k3
    exact p.of (x1.trans k3) k1 (RelD.lst_i upd_same (RelDs.mono k2 _ _ racc)) q2
theorem de_lc {elt iter : Expr} {ifs : List Expr} {scope : Scope} {x : Str} {xp : Pos} {v : Nat} {ti : TDI} {tt : TDT} {te : TD} (hc : X.calm = true) (hN : X.N.Nodup) (hi : DI X F0 (.Name x xp) iter ti) (ok : BlkOk X.N X.env.scope scope [(x, v)])
    (hg : ∀ (s : Shared) (H : Hp) (C : Addr) (cl : List (Str × Addr)) (fp : List Addr), PG (X.blk s H scope (compEnvC scope cl C X.env) fp) (.Name x xp) (gName v))
    (ht : ∀ (s : Shared) (H : Hp) (C : Addr) (cl : List (Str × Addr)) (fp : List Addr), DTs (X.blk s H scope (compEnvC scope cl C X.env) fp) F0 ifs tt)
    (he : ∀ (s : Shared) (H : Hp) (C : Addr) (cl : List (Str × Addr)) (fp : List Addr), DE (X.blk s H scope (compEnvC scope cl C X.env) fp) F0 elt te) (hs : ∀ x, foldedSetIterable iter X.env x = pure x := by intro _; rfl) :
    DE X F0 (.ListComp elt [⟨.Name x xp, iter, ifs, 0⟩] scope pos) (tdLc ti v tt te) :=
  PE.weak (pe_lc (own := [(x, v)]) (tt := TL X.K F0 tt) (te := EL X.K F0 te) hc hN hi ok hg ht he hs) fun σ H Q h => lc_go h
theorem ds_setLc (i : Nat) {y : Str} {py : Pos} {elt iter : Expr} {ifs : List Expr} {scope : Scope} {x : Str} {xp spos : Pos} {v : Nat} {ti : TDI} {tt : TDT} {te : TD} (hc : X.calm = true) (hN : X.N.Nodup) (hy : X.N[i]? = some y) (hyl : X.env.scope.names.lookup y = some .local)
    (hsw : swapsWith (.ListComp elt [⟨.Name x xp, iter, ifs, 0⟩] scope pos) (some (.Name y py)) spos.line X.env = pure true) (hi : DI X F0 (.Name x xp) iter ti) (ok : BlkOk X.N X.env.scope scope [(x, v)])
    (hg : ∀ (s : Shared) (H : Hp) (C : Addr) (cl : List (Str × Addr)) (fp : List Addr), PG (X.blk s H scope (compEnvC scope cl C X.env) fp) (.Name x xp) (gName v))
    (ht : ∀ (s : Shared) (H : Hp) (C : Addr) (cl : List (Str × Addr)) (fp : List Addr), DTs (X.blk s H scope (compEnvC scope cl C X.env) fp) F0 ifs tt)
    (he : ∀ (s : Shared) (H : Hp) (C : Addr) (cl : List (Str × Addr)) (fp : List Addr), DE (X.blk s H scope (compEnvC scope cl C X.env) fp) F0 elt te) (hs : ∀ x, foldedSetIterable iter X.env x = pure x := by intro _; rfl) :
    DS X F0 (.Assign [.Name y py] (.ListComp elt [⟨.Name x xp, iter, ifs, 0⟩] scope pos) spos) (tdAsg (tdLc ti v tt te) (gdName i)) :=
  PS.weak (ps_setLc (own := [(x, v)]) (tt := TL X.K F0 tt) (te := EL X.K F0 te) hc hN hy hyl hsw hi ok hg ht he hs) fun D σ H ⟨F, S, ρ, D', a, h, p⟩ => by
    show tLc _ _ _ _ _ σ H _
    exact lc_go (EL.go a h fun w H1 F1 S1 d x1 a1 r1 q1 => p.1 _ _ _ _ _ x1 a1.sr (a1.env.set r1 i) q1)
end
/-- at a def's end: what is left over is forgotten; a list that only the end knows is data -/
def Fini (Q : D → Store → Prop) : D → Store → Prop := fun d S => (∃ S', Sub S' S ∧ Q d S') ∨ ∃ a ds S', d = .ref a ∧ S a = some (.lst ds) ∧ Sub S' S ∧ S' a = none ∧ Q (.lst ds) S'
theorem Fini.of {Q : D → Store → Prop} {d : D} {S : Store} (h : Q d S) : Fini Q d S := .inl ⟨S, Sub.refl S, h⟩
def startD (N : List Str) (ds : List D) : Rho := ds.map some ++ List.replicate (N.length - ds.length) none
section
variable {P : Program} {w : World} {K : PySem.W.Frag} {mg : Str → Option Value} {base : Heap}
theorem fini_go {F : Hp} {S : Store} {H : Hp} {Q' : D → Store → Prop} {Q : VK} (p : Post K F S H Q' Q) {F1 : Hp} {S1 : Store} {H1 : Hp} {d : D} {v : V} (x : Ext F S H F1 S1 H1) (sr : SR K F1 S1 H1) (rd : RelD K F1 d v) (q : Fini Q' d S1) : Q v H1 := by
  rcases q with ⟨S', hs, q⟩ | ⟨a, ds, S', rfl, e, hs, hn, q⟩
  · exact p.of (x.trans (SR.ext_sub hs)) (sr.sub hs) rd q
  · obtain ⟨F', k1, k2, k3⟩ := sr.freeze e
    have hs' : Sub S' (sdel S1 a) := fun b u h => by
      unfold sdel
      rw [if_neg]; exact hs b u h
      intro z; rw [z, hn] at h; cases h
    rw [rd.ref_e]
    exact p.of ((x.trans k2).trans (SR.ext_sub hs')) (k1.sub hs') k3 q
theorem startD_rel {F : Hp} {N : List Str} {ds : List D} {vs : List V} (r : RelDs K F ds vs) : RelE K F (startD N ds) (L2.start N vs) := by
  unfold startD L2.start
  refine ⟨by simp [r.length], fun i d h => ?_⟩
  have hl := r.length
  by_cases hi : i < ds.length
  · rw [List.getElem?_append_left (by simpa using hi), List.getElem?_map] at h
    cases q : ds[i]? with
    | none => rw [q] at h; cases h
    | some d' =>
      rw [q] at h; cases h
      obtain ⟨v, h1, h2⟩ := r.get q
      refine ⟨v, ?_, h2⟩
      rw [List.getElem?_append_left (by simp; omega), List.getElem?_map, h1]; rfl
  · rw [List.getElem?_append_right (by simp; omega), List.getElem?_replicate] at h
    split at h <;> cases h
theorem df_of {x qual : Str} {st : Stmt} {f : Addr} {fd : FuncData} {N ps : List Str} {k : Nat} {m : M} {t : XD → TDS} (Fn : Fun K x qual st f fd) (Sc : FnScope N ps (defScope st))
    (body : ∀ (cdv : Value) (A : Around) (outer : List Env) (s : Shared) (H : Hp) (E : XK) (F0 : Ent) (E' : XD), BC (cxOf (L2.CX P w) P w K mg base N qual (defScope st) f cdv A outer s H E) F0 k E' →
      DSs (cxOf (L2.CX P w) P w K mg base N qual (defScope st) f cdv A outer s H E) F0 (defBody st) (t E'))
    (read : ∀ (ds : List D) (S : Store) (Q : D → Store → Prop) (E : XD), ds.length = ps.length → m ds S Q E → t E { nx := fun _ S' => Fini Q .non S', rt := Fini Q } (startD N ds) S) :
    DF P w K mg base (k + 1) f fd ps m := by
  refine fnd_of Fn Sc (fun vs H Q E ⟨F, S, ds, Q', E', h1, h2, h3, h4, h5, h6⟩ => by rw [h2.length, h3]) fun cdv A outer s H vs Q E hr ⟨F, S, ds, Q', E', h1, h2, h3, h4, h5, h6⟩ => ?_
  have B : BC (cxOf (L2.CX P w) P w K mg base N qual (defScope st) f cdv A outer s H E) ⟨F, S, H⟩ k E' :=
    ⟨hr, rfl, _, takes_of rfl rfl rfl rfl, fun F' S' H' y cls od σ hl z sr er q => h6 F' S' H' y cls od z sr er q⟩
  refine ⟨_, body cdv A outer s H E ⟨F, S, H⟩ E' B, F, S, startD N ds, _, ⟨Ext.refl _ _ _, h1, startD_rel h2⟩, read ds S Q' E' h3 h4, ?_, ?_, ?_, ?_⟩
  · exact fun σ' H' F' S' ρ' z sr ev q => fini_go h5 z sr .non_i q
  · exact fun v H' F' S' d z sr rd q => fini_go h5 z sr rd q
  · exact fun _ _ _ _ _ _ _ _ q => q
  · exact fun _ _ _ _ _ _ _ _ q => q
end
end DL
namespace DL
open PySem PySem.Spec L2
/-- what stands of the class C and its __init__ -/
structure RF (P : Program) (K : PySem.W.Frag) (qual : Str) (st : Stmt) (C fI cc cda : Addr) (fd : FuncData) : Prop where
  T : OexC K C
  init : PySem.W.findIn K (.ref C) "__init__" = some (some (.ref fI))
  tI : PySem.W.typeIn K (.ref fI) = some (.type "function")
  fn : ∃ (oc : Value) (od : Option Addr) (kV doc pm : Value) (an : Option Addr) (ct : Value) (osl : Array (Option Value)), fd = PySem.W.ksFn "__init__" qual (defArgs st) (defBody st) (defScope st) .none kV doc pm an (.ref cda) ct cc ∧ K.lookup fI = some ⟨oc, od, .func fd, osl⟩
  code : PySem.W.codeIn K (.ref cda) qual = true
  file : ∃ (oc : Value) (od : Option Addr) (vs : Array Value) (sl : Array (Option Value)) (tf : Tok), K.lookup cda = some ⟨oc, od, .fields vs, sl⟩ ∧ vs[2]? = some (.str P.main.file tf)
  cell : ∃ (cl : Value) (cld : Option Addr) (csl : Array (Option Value)), K.lookup cc = some ⟨cl, cld, .cell (some (.ref C)), csl⟩
  sup : PySem.W.ks_superIn K C C "__init__" = some (some (.builtin "ValueError.__init__"))
  tp : PySem.W.nsIn K cStatics "thirdparty.any" = some none
  top : (P.main.scope.names.lookup ("super" : Str)).isSome = false
  subVE : PySem.W.subIn K (.ref C) (.type "ValueError") = some true
  noPos : PySem.W.findIn K (.ref C) "position" = some none
  mroC : PySem.W.mroIn K C (.ref C) = some true
section
variable {P : Program} {w : World} {K : PySem.W.Frag} {mg : Str → Option Value} {base : Heap}
/-- the context of that __init__'s body -/
def cxI (P : Program) (w : World) (K : PySem.W.Frag) (mg : Str → Option Value) (base : Heap) (qual : Str) (scope : Scope) (fI cda cc : Addr) (A : Around) (outer : List Env) (s : Shared) (H : Hp) : Cx where
  prog := P
  w := w
  K := K
  mg := mg
  base := base
  A := A.deeper (PySem.W.ksEnv qual scope s.heap.objs.size fI (.ref cda) cc)
  N := ["self", "position"]
  s_0 := s
  H_0 := H
  env := PySem.W.ksEnv qual scope s.heap.objs.size fI (.ref cda) cc
  outer := outer
  stack := PySem.W.ksEnv qual scope s.heap.objs.size fI (.ref cda) cc :: outer
  ex := []
  calm := true
  fn := fun _ => false
  pn := []
  xe := fun _ _ => False
theorem cxI_inv {qual : Str} {scope : Scope} {fI cda cc : Addr} {A : Around} {outer : List Env} {s : Shared} {H : Hp} {h₀ : Heap} {a : V} {i : V} {u v : Value} {ocl : Obj} {vcl : Option Value} {tk : Nat}
    (hk : scope.kind = .function) (hfree : ∀ y ∈ scope.names, y.2 = .cell ∨ y.2 = .free → y.1 = "__class__") (hself : scope.names.lookup ("self" : Str) = some .local) (hpos : scope.names.lookup ("position" : Str) = some .local)
    (hd : A.handled = none) (e0 : Env0 P w K mg base A outer s H) (hcc : K.lookup cc = some ocl) (hcv : ocl.data = .cell vcl) (ra : RelV a u) (ri : RelV i v)
    (hns : h₀.Ns s.heap.objs.size (fun x => ([("self", u), ("position", v)] : List (Str × Value)).reverse.lookup x)) (keep : ∀ b o, s.heap.get? b = some o → h₀.get? b = some o) :
    Inv (cxI P w K mg base qual scope fI cda cc A outer s H) [] [some a, some i] H { s with heap := h₀, toks := tk } := by
  have hcb : base.get? cc = some ocl := e0.mod.kin _ _ hcc
  have look1 : ∀ (x : Str) (c : Addr), ([("__class__", cc)] : List (Str × Addr)).lookup x = some c → x = "__class__" ∧ c = cc := fun x c h => by
    unfold List.lookup at h
    split at h
    · rename_i q
      exact ⟨by simpa using q, (Option.some.inj h).symm⟩
    · cases h
  refine ⟨⟨e0.mod, hk, rfl, rfl, Nat.le_refl _, fun x y c h1 h2 => by rw [(look1 x c h1).1, (look1 y c h2).1], fun x hx => ?_, fun x c hx _ => Bool.noConfusion hx, fun _ => hd, Around.frames_deeper e0.frames, .inr ⟨rfl, rfl⟩, fun b hb => (nomatch hb), e0.bs, e0.bsz, fun b _ _ hb => (nomatch hb), fun b hb => (nomatch hb), e0.funs, e0.frf⟩,
    rfl, e0.bare, Un.kept keep, ⟨_, hns, fun j x y h1 h2 h3 => ?_⟩, fun x c h => ?_, e0.hok.fresh (Nat.le_refl _), fun x c h => ?_, fun p hp => (nomatch hp), e0.hok.kept keep, rfl⟩
  · have hx' : scope.names.lookup x = some .cell ∨ scope.names.lookup x = some .free := hx
    have hm : x = "__class__" := by
      rcases hx' with q | q
      · exact hfree (x, .cell) (PySem.mem_of_lookup q) (.inl rfl)
      · exact hfree (x, .free) (PySem.mem_of_lookup q) (.inr rfl)
    subst hm
    exact ⟨cc, rfl⟩
  · match j, h1, h2 with
    | 0, h1, h2 =>
      cases h1
      cases h2
      exact ⟨u, ra, .inl ⟨hself, rfl⟩⟩
    | 1, h1, h2 =>
      cases h1
      cases h2
      exact ⟨v, ri, .inl ⟨hpos, rfl⟩⟩
    | j + 2, h1, _ => cases h1
  · obtain ⟨rfl, rfl⟩ := look1 x c h
    exact ⟨vcl, ocl, keep _ _ (e0.bs _ _ hcb).1, hcv⟩
  · obtain ⟨rfl, rfl⟩ := look1 x c h
    exact (e0.bs _ _ hcb).2
/-- texts of numbers are short -/
theorem toDigitsCore_len (b : Nat) : ∀ (f n : Nat) (acc : List Char), (Nat.toDigitsCore b f n acc).length ≤ f + acc.length
  | 0, n, acc => by unfold Nat.toDigitsCore; omega
  | f + 1, n, acc => by
    unfold Nat.toDigitsCore
    dsimp only
    split
    · simp; omega
    · have := toDigitsCore_len b f (n / b) ((n % b).digitChar :: acc)
      simp at this ⊢
      omega
theorem num_len (n : Nat) : (tx (toString (n : Int))).length ≤ n + 1 := by
  unfold tx
  rw [List.length_map]
  have e : (toString (n : Int)) = Nat.repr n := rfl
  rw [e]
  unfold Nat.repr
  have h := toDigitsCore_len 10 (n + 1) n []
  simp [Nat.toDigits] at h ⊢
  exact h
abbrev scopeI : Scope := { kind := .function, names := [("self", .local), ("position", .local), ("__class__", .free), ("super", .globalImplicit), ("str", .globalImplicit)], isGenerator := false, isCoroutine := false, more := [] }
def spI (C : Addr) : Sp := fun vs H Q _ => ∃ (a : Addr) (i : Nat), vs = [.ref a, .int i] ∧ i ≤ 1000000 ∧ H a = some (exo a C none) ∧ ∀ dx, H dx = none → dx ≠ a → Q .non (upd (upd H dx (exd dx [("position", .int i)])) a (exo a C (some dx)))
section
open PySem.Calls
theorem body_init {X : Cx} {qual : Str} {st : Stmt} {C fI cc cda a : Addr} {fd : FuncData} {txt : Str} {j : Nat} {i : Nat} {p0 p1 p2 p3 p4 p5 p6 p7 p8 p9 q1 q2 q3 q4 : Pos} {body : List Stmt} {s : Shared} {H : Hp}
    (R : RF X.prog X.K qual st C fI cc cda fd) (hsc : X.env.scope = scopeI) (hN : X.N = [("self" : Str), ("position" : Str)]) (hfn : X.env.func = some fI) (hcd : X.env.code = .ref cda) (hcl : X.env.cells.lookup ("__class__" : Str) = some cc) (hc : X.calm = true)
    (hps : ((defArgs st).posonlyargs ++ (defArgs st).args).head?.map (·.arg) = some ("self" : Str)) (htxt : txt.length ≤ 1000) (msup : X.mg "super" = none) (mstr : X.mg "str" = none) (hi : i ≤ 1000000)
    (he : ∃ pl : Sem Bool, eval (.Call (.Attribute (.Call (.Name "super" p0) [] [] p1) "__init__" p2) [.BinOp (.Constant (.str txt) j p3) .Add (.Call (.Name "str" p4) [.Name "position" p5] [] p6) p7] [] p8) X.env = (do
      let ov ← attributeBase (.Call (.Name "super" p0) [] [] p1) "__init__" X.env (eval (.Call (.Name "super" p0) [] [] p1) X.env)
      standAt p2.atName
      let (f, first) ← holding [ov] (getMethod ov "__init__" pl)
      callWith p8 f first (backTo p8 (starEach [.BinOp (.Constant (.str txt) j p3) .Add (.Call (.Name "str" p4) [.Name "position" p5] [] p6) p7] X.env)) []))
    (I : Inv X [] [some (.ref a), some (.int i)] H s) (ea : H a = some (exo a C none)) :
    PySem.wpAt (model X.prog X.w) X.A (.func body X.env) (execs [.Expr (.Call (.Attribute (.Call (.Name "super" p0) [] [] p1) "__init__" p2) [.BinOp (.Constant (.str txt) j p3) .Add (.Call (.Name "str" p4) [.Name "position" p5] [] p6) p7] [] p8) p9, .Assign [.Attribute (.Name "self" q1) "position" q2] (.Name "position" q3) q4] X.env)
      (fun fl s' => fl = .next ∧ ∃ dx, H dx = none ∧ dx ≠ a ∧ Inv X [] [some (.ref a), some (.int i)] (upd (upd H dx (exd dx [("position", .int i)])) a (exo a C (some dx))) s') X.xe s := by
  obtain ⟨pl, he⟩ := he
  have hkf : X.env.scope.kind = .function := by rw [hsc]
  have kS : X.env.kindOf "super" = some .globalImplicit := by show X.env.scope.names.lookup _ = _; rw [hsc]; rfl
  have kC : X.env.kindOf "__class__" = some .free := by show X.env.scope.names.lookup _ = _; rw [hsc]; rfl
  have kF : X.env.kindOf "self" = some .local := by show X.env.scope.names.lookup _ = _; rw [hsc]; rfl
  have gS : Gl X "str" := by show X.env.scope.names.lookup _ = _; rw [hsc]; rfl
  have KX := I.kIn
  obtain ⟨oc, od, kV, doc, pm, an, ct, osl, efd, lk⟩ := R.fn
  obtain ⟨fc, fo, fvs, fsl, tf, lcd, hfile⟩ := R.file
  obtain ⟨cl, cld, csl, lcc⟩ := R.cell
  obtain ⟨ar, har, har2⟩ : ∃ ar : Arg, ((defArgs st).posonlyargs ++ (defArgs st).args).head? = some ar ∧ ar.arg = ("self" : Str) := by
    cases z : ((defArgs st).posonlyargs ++ (defArgs st).args).head? with
    | none => rw [z] at hps; cases hps
    | some ar => rw [z] at hps; exact ⟨ar, rfl, Option.some.inj hps⟩
  have vSelf : Vis X.env.scope "self" := .inl kF
  have vPos : Vis X.env.scope "position" := .inl (by rw [hsc]; rfl)
  refine PySem.ks_wpAt_execs_cons (PySem.ks_wpAt_Expr_any ?_ I.quiet rfl)
  refine PySem.ks_wpAt_MethodCall (pl := pl) ?_ he
  refine PySem.ks_wpAt_super_base kS kC (by decide) hfn (KX _ _ lk) rfl (by rw [efd]; exact har) hcd (KX _ _ lcd) rfl hfile (by simp) R.top ?_
  obtain ⟨mb, hb1, hb2⟩ := I.mod.blt
  refine PySem.W.ks_loadName_global hkf kS (Calls.loadGlobal_builtin (by rw [I.ok.glob]; exact I.mod.glob.keeps I.bk) msup (by rw [I.ok.blt]; exact hb1.keeps I.bk) ((hb2 _ (by decide)).trans (by decide +kernel)) ⟨rfl, ?_⟩)
  refine wpAny_loadName_free hkf kC hcl ⟨_, KX _ _ lcc, rfl⟩ ?_
  obtain ⟨m, hn, hl⟩ := id I.loc
  obtain ⟨us, rus, lus⟩ := hl 0 "self" (.ref a) (by rw [hN]; rfl) rfl vSelf
  obtain rfl : us = Value.ref a := rus
  have hms : m "self" = some (.ref a) := by
    rcases lus with ⟨_, z⟩ | ⟨z, _⟩
    · exact z
    · rw [kF] at z; rcases z with z | z <;> cases z
  refine wpAny_loadName_local hkf (by rw [har2]; exact kF) hn (by rw [har2]; exact hms) ?_
  obtain ⟨nm, qn, N, bs, bm, sn, sub, ab, col, dd, k0, k1, k2, k3, k5, hC, hbm⟩ := R.T.cls
  have hCh := KX _ _ hC
  refine PySem.ks_wpAny_isType_cls hCh rfl ⟨rfl, ?_⟩
  obtain ⟨t1, hx⟩ := exo_at I.hok ea
  have hsub : PySem.W.Looks (model X.prog X.w) s.heap (isSubtype (.ref C) (.ref C)) true := PySem.W.looks_mroIn KX R.mroC
  obtain ⟨hp, g, d, tk, os⟩ := s
  refine PySem.ks_wpAny_call_super hCh rfl hx rfl (fun c z => by cases z) hsub (fun h1 hso k1' => ?_)
  have I1 : L2.Inv X [] [some (.ref a), some (.int i)] H ⟨h1, g, d, tk, os⟩ := I.kept (t' := tk) k1'
  have KX1 := I1.kIn
  have hcls : PySem.W.clsIn X.K C = some { name := nm, bases := bs, mro := .ref C :: bm, ns := N, qualname := qn, hasDict := true, slotNames := sn, subclasses := sub, abstract := ab, collection := col, hasDel := false } := by unfold PySem.W.clsIn; rw [hC] <;> rfl
  have hx1 := k1' _ _ hx
  have hI1 : PySem.W.Looks (model X.prog X.w) h1 (isInstance (.ref a) (.type "ValueError")) true :=
    (show PySem.W.InstAt h1 a _ C none from ⟨hx1, rfl, rfl, trivial⟩).type.andThen (PySem.W.looks_subIn KX1 R.subVE)
  have hsup := R.sup
  unfold PySem.W.ks_superIn at hsup
  rw [hcls] at hsup
  have haC : a ≠ C := fun z => by
    rw [z] at hx
    have := Option.some.inj (hx.symm.trans hCh)
    cases this
  refine PySem.W.kxs_getMethod PySem.W.kxs_ValueError hso (PySem.W.looks_opaque KX1 R.tp) (l₀ := .ref C :: bm) (fun A Q E s k q => wpAny_bind ((PySem.W.looks_clsIn KX1 hcls) A _ E s k (wpAny_pure q))) rfl KX1 hsup hI1 haC (by decide) ?_
  have I2 : L2.Inv X [(h1.objs.size, PySem.W.kxs_mw "ValueError.__init__" a)] [some (.ref a), some (.int i)] H ⟨h1.push (PySem.W.kxs_mw "ValueError.__init__" a), g, d, tk + 1, os⟩ :=
    ClX.pin_new (s := ⟨h1, g, d, tk, os⟩) (t' := tk + 1) I1 (fun b u e => Heap.get?_push_of_some _ e) (Nat.le_refl _) (Heap.get?_push_size _ rfl) (fun v z => nomatch z)
  refine PySem.W.kxs_callWith (i := "ValueError.__init__") (x := a) rfl (evalArgs_plain (thn ((pa_cons (pe_op op_add_str pe_str (pe_callTy call_str_int gS mstr PyProof.Rows.boot_str (pa_cons (pe_var (i := 1) (x := "position") (by rw [hN]; rfl) vPos) pa_nil))) pa_nil).run p8 _ _ _ _ (fun vs H' => (∃ y, vs = [y]) ∧ H' = H) I2 ?_) fun us s3 ⟨vs, H3, I3, r3, ⟨y3, e3⟩, e4⟩ => ?_))
  · show tCons _ _ _ _ _
    have hs : (tx (toString (i : Int))).length ≤ 1000001 := Nat.le_trans (num_len i) (by omega)
    refine ⟨.int i, rfl, (i : Int), rfl, ?_, _, _, rfl, rfl, ?_, ⟨_, rfl⟩, rfl⟩
    · show i.log2 < 1920
      by_cases z : i = 0
      · subst z; decide
      · exact Nat.lt_trans ((Nat.log2_lt z).mpr (show i < 2 ^ 20 by omega)) (by decide)
    · rw [ofString_tx]
      show txt.length + (tx (toString (i : Int))).length ≤ _
      rw [sizeLine_eq]
      omega
  subst e3 e4
  cases r3 with
  | @cons _ u0 _ ur ra rw' =>
    cases rw'
    refine ⟨ClX.pin_at I3, ?_⟩
    have I4 := ClX.unpin I3
    obtain ⟨hp3, g3, d3, tk3, os3⟩ := s3
    have hmw : hp3.get? h1.objs.size = some (PySem.W.kxs_mw "ValueError.__init__" a) := ClX.pin_at I3
    have KX4 := I4.kIn
    obtain ⟨t4, hx4⟩ := exo_at I4.hok ea
    refine wpAny_call (codeAny_of_tree ?_)
    show wpAny _ X.A.in1 (callAny (.ref h1.objs.size) ⟨[u0], []⟩) _ _ _
    simp only [callAny]
    refine wpAny_bind (wpAny_load hmw ?_)
    simp only [PySem.W.kxs_mw, show (Value.type "method-wrapper" == Value.type "method" || Value.type "method-wrapper" == Value.type "builtin_function_or_method" || Value.type "method-wrapper" == Value.type "method-wrapper") = true by decide, if_true]
    refine PySem.W.KFB.if_so (by decide) ?_
    refine wpAny_bind (PySem.W.check_bound_init PySem.F.excBase_ValueError.toExcCallFacts (KX4 _ _ hC) hx4 rfl ?_)
    refine wpAny_bind (wpAny_pure (wpAny_pure ?_))
    refine ⟨plainId_quiet PySem.F.excBase_ValueError.init.plain _, codeAny_builtin PySem.F.excBase_ValueError.initEntry ?_⟩
    refine PySem.W.exc_init_tree (cls := .ref C) (t0 := t4) (dv := none) (c2 := .none) (c3 := .none) (b4 := .bool false) hx4 (by show 1 ≤ _; rw [sizeLine_eq]; decide) (fun h5 k5 x5 y5 => ?_)
    have I5 : L2.Inv X [] [some (.ref a), some (.int i)] (upd H3 a (exo a C none)) ⟨h5, g3, d3, tk3, os3⟩ := I4.write (by rw [ea]; exact True.intro) (.inl rfl) k5 ⟨_, x5⟩ (exo_ok x5)
    have eu : upd H3 a (exo a C none) = H3 := by
      funext b
      by_cases hb : b = a
      · rw [hb, upd_same, ea]
      · rw [upd_ne hb]
    rw [eu] at I5
    show PySem.wpAt _ _ _ _ _ _ _
    refine PySem.ks_wpAt_execs_cons (PySem.wpAt_of_wpAny ?_)
    refine wpAny_mono ((ps_ost (X := X) (f := "position") (o := .Name "self" q1) (e := .Name "position" q3) (pos := q4) (p' := q2) (pe_var (i := 0) (x := "self") (by rw [hN]; rfl) vSelf) (pe_var (i := 1) (x := "position") (by rw [hN]; rfl) vPos)).run [] _ _ _ ⟨fun σ' H' => σ' = [some (.ref a), some (.int i)] ∧ ∃ dx, H3 dx = none ∧ dx ≠ a ∧ H' = upd (upd H3 dx (exd dx [("position", .int i)])) a (exo a C (some dx)), fun _ _ => False, fun _ _ => False, fun _ _ => False⟩ I5 ?_) (fun fl s6 h6 => ?_) (fun _ _ y => y)
    · refine ⟨_, rfl, _, rfl, a, C, rfl, R.T, R.noPos, .inl ⟨ea, fun dx n ne => ⟨rfl, dx, n, ne, rfl⟩⟩⟩
    · cases fl with
      | next =>
        obtain ⟨σ', H', I6, e6, dx, n, ne, e7⟩ := h6
        subst e6 e7
        exact PySem.wpAt_of_wpAny (wpAny_execs_nil ⟨rfl, dx, n, ne, I6⟩)
      | brk =>
        obtain ⟨_, _, _, z⟩ := h6
        exact z.elim
      | cont =>
        obtain ⟨_, _, _, z⟩ := h6
        exact z.elim
      | ret u =>
        obtain ⟨_, _, _, _, _, z⟩ := h6
        exact z.elim
end
theorem ok_init {qual : Str} {st : Stmt} {C fI cc cda : Addr} {fd : FuncData} {txt : Str} {j : Nat} {p0 p1 p2 p3 p4 p5 p6 p7 p8 p9 q1 q2 q3 q4 : Pos}
    (R : RF P K qual st C fI cc cda fd) (hs : defScope st = scopeI)
    (hb : defBody st = [.Expr (.Call (.Attribute (.Call (.Name "super" p0) [] [] p1) "__init__" p2) [.BinOp (.Constant (.str txt) j p3) .Add (.Call (.Name "str" p4) [.Name "position" p5] [] p6) p7] [] p8) p9, .Assign [.Attribute (.Name "self" q1) "position" q2] (.Name "position" q3) q4])
    (hps : ((defArgs st).posonlyargs ++ (defArgs st).args).head?.map (·.arg) = some "self") (htxt : txt.length ≤ 1000)
    (he : ∀ env : Env, ∃ pl : Sem Bool, eval (.Call (.Attribute (.Call (.Name "super" p0) [] [] p1) "__init__" p2) [.BinOp (.Constant (.str txt) j p3) .Add (.Call (.Name "str" p4) [.Name "position" p5] [] p6) p7] [] p8) env = (do
      let ov ← attributeBase (.Call (.Name "super" p0) [] [] p1) "__init__" env (eval (.Call (.Name "super" p0) [] [] p1) env)
      standAt p2.atName
      let (f, first) ← holding [ov] (getMethod ov "__init__" pl)
      callWith p8 f first (backTo p8 (starEach [.BinOp (.Constant (.str txt) j p3) .Add (.Call (.Name "str" p4) [.Name "position" p5] [] p6) p7] env)) []))
    (msup : mg "super" = none) (mstr : mg "str" = none) : FnOk P w K mg base CX0 1 fI fd ["self", "position"] (spI C) := by
  obtain ⟨oc, od, kV, doc, pm, an, ct, osl, efd, lk⟩ := R.fn
  refine ⟨fun vs H Q E ⟨a, i, e, _⟩ => by rw [e]; rfl, fun A outer s H args us vs Q E hr e0 hbd r ⟨a, i, ev, hi, ea, q⟩ => ?_⟩
  subst ev
  obtain ⟨u, v, rfl, ru, rv⟩ : ∃ u v, us = [u, v] ∧ RelV (.ref a) u ∧ RelV (.int (i : Int)) v := by
    cases r with
    | cons h1 h2 =>
      cases h2 with
      | cons h2 h3 =>
        cases h3
        exact ⟨_, _, rfl, h1, h2⟩
  have KX : K.In s.heap := e0.mod.kin.keeps fun b o e => (e0.bs b o e).1
  have lim : s.heap.NoLimit := e0.mod.nolimit.keeps fun b o e => (e0.bs b o e).1
  subst efd
  obtain ⟨cl, cld, csl, lcc⟩ := R.cell
  refine PySem.ks_codeAny_call_defAt (fd := PySem.W.ksFn "__init__" qual (defArgs st) (defBody st) (defScope st) .none kV doc pm an (.ref cda) ct cc) (body := defBody st) hr.depth (KX _ _ lk) rfl lim (PySem.W.codeRec_of KX R.code) rfl hbd (by show ∀ x ∈ (defScope st).names, _; rw [hs]; decide) (by
    show ∀ x ∈ [(("self" : Str), u), (("position" : Str), v)], (defScope st).names.lookup x.1 = _
    rw [hs]
    intro x hx
    rcases List.mem_cons.mp hx with rfl | hx
    · rfl
    · rcases List.mem_cons.mp hx with rfl | hx
      · rfl
      · cases hx) (fun h₀ hns keep => ?_) (by show (defScope st).isCoroutine = _; rw [hs]) (by show (defScope st).isGenerator = _; rw [hs]) (by show (defScope st).kind = _; rw [hs])
  have I : Inv (cxI P w K mg base qual (defScope st) fI cda cc A outer s H) [] [some (.ref a), some (.int i)] H { s with heap := h₀, toks := s.toks + 2 } :=
    cxI_inv (by rw [hs]) (by rw [hs]; decide) (by rw [hs]; rfl) (by rw [hs]; rfl) hr.hd e0 lcc rfl ru rv hns keep
  show PySem.wpAt _ _ (.func (defBody st) (PySem.W.ksEnv qual (defScope st) s.heap.objs.size fI (.ref cda) cc)) (execs (defBody st) (PySem.W.ksEnv qual (defScope st) s.heap.objs.size fI (.ref cda) cc)) _ _ _
  rw [hb]
  refine PySem.wpAt_mono (body_init (X := cxI P w K mg base qual (defScope st) fI cda cc A outer s H) (j := j) (p0 := p0) (p1 := p1) (p2 := p2) (p3 := p3) (p4 := p4) (p5 := p5) (p6 := p6) (p7 := p7) (p8 := p8) (p9 := p9) (q1 := q1) (q2 := q2) (q3 := q3) (q4 := q4) R hs rfl rfl rfl rfl rfl hps htxt msup mstr hi ?_ I ea) (fun fl s6 h6 => ?_) (fun _ _ z => False.elim z)
  · exact he _
  obtain ⟨rfl, dx, n, ne, I6⟩ := h6
  exact ⟨.non, _, I6.os, I6.bare, I6.base, I6.hok, rfl, q dx n ne⟩
end
end DL
namespace DL
open PySem PySem.Spec L2
/-- an own exception whose __init__ keeps its argument as its position -/
structure RX (P : Program) (w : World) (K : PySem.W.Frag) (mg : Str → Option Value) (base : Heap) (C : Addr) : Prop where
  T : OexC K C
  make : ∃ (fI : Addr) (fd : FuncData), PySem.W.findIn K (.ref C) "__init__" = some (some (.ref fI)) ∧ PySem.W.typeIn K (.ref fI) = some (.type "function") ∧ FnOk P w K mg base CX0 1 fI fd ["self", "position"] (spI C) ∧ Binds K fd ["self", "position"] []
section
variable {X : Cx} {F0 : Ent} {e : Expr} {te : TD} {p pos pos' : Pos} {x : Str} {C : Addr} {k : Nat} {E' : XD}
def tdRaise (C : Addr) (E' : XD) (te : TD) : TDS := fun _ ρ S => te ρ S fun d S1 => ∃ i : Nat, d = .int i ∧ i ≤ 1000000 ∧ E' ⟨C, [("position", .int i)]⟩ S1
theorem ds_raise (R : RX X.prog X.w X.K X.mg X.base C) (B : BC X F0 (k + 2) E') (hg : Gl X x) (hm : X.mg x = some (.ref C)) (he : DE X F0 e te)
    (hdb : (x == ("__debug__" : Str)) = false := by decide) (hs : starEach (e :: []) X.env = (false, eval e X.env) :: starEach [] X.env := by rfl) (hpl : (backTo pos (starEach [] X.env)).any (·.1) = false := by rfl) :
    DS X F0 (.Raise (some (.Call (.Name x p) [e] [] pos)) none pos') (tdRaise C E' te) := by
  obtain ⟨W, tk, hW⟩ := B.take
  obtain ⟨fI, fd, i1, i2, i3, i4⟩ := R.make
  refine PS.weak (ps_raise B.calm (takes_len tk) (pmk_oex (CX := CX0) (k := 1) (ds := []) (dvs := []) R.T i1 i2 i3 (B.room.room (by omega)) i4 .nil (fun _ _ _ _ _ _ _ z => z.elim) hg hm (pa_cons he pa_nil hs) hdb hs hpl)) fun D σ H ⟨F, S, ρ, D', a, h, _⟩ => ?_
  refine EL.go a h fun v H1 F1 S1 d x1 a1 r1 ⟨i, e1, e2, q⟩ => ?_
  subst e1
  obtain rfl := r1.int_e
  refine ⟨by simp, fun ea hea => ?_⟩
  refine ⟨ea, i, rfl, e2, upd_same, fun dx n ne => ⟨rfl, dx, [("position", .int i)], upd_same, ?_, ?_, fun hl => ?_⟩⟩
  · rw [upd_ne ne, upd_same]
  · rw [upd_ne ne] at n; exact n
  · have n1 : H1 dx = none := by rw [upd_ne ne] at n; exact n
    have eH : upd (del (upd (upd (upd H1 ea (exo ea C none)) dx (exd dx [("position", .int i)])) ea (exo ea C (some dx))) ea) dx (.xd [("position", V.int i)]) = upd H1 dx (.xd [("position", V.int i)]) := by
      funext b
      by_cases hb : b = dx
      · rw [hb, upd_same, upd_same]
      · rw [upd_ne hb, upd_ne hb]
        by_cases hc : b = ea
        · rw [hc, del_same, hea]
        · rw [del_ne hc, upd_ne hc, upd_ne hb, upd_ne hc]
    rw [eH]
    have xl : Ext F1 S1 H1 F1 S1 (upd H1 dx (.xd [("position", V.int i)])) := by
      refine ⟨Same.refl _, fun b u q _ => ?_, fun _ q g => absurd g q, fun _ q => .inl q⟩
      rw [upd_ne]; exact q
      intro z; rw [z, n1] at q; cases q
    exact hW F1 S1 _ ⟨C, [("position", .int i)]⟩ (.ref C) (some dx) σ hl (a1.f0.trans xl) (a1.sr.laid n1) ⟨rfl, .inr ⟨dx, _, rfl, upd_same, ⟨V.int i, [], rfl, .int_i _, rfl⟩⟩⟩ q
def tdCallL (i : Nat) (f : Addr) (m : M) (n : Nat) (E' : XD) (t : TDs) : TD := fun ρ S Q => ρ[i]? = some (some (.ref f)) ∧ tdCall m n E' t ρ S Q
theorem de_callL {f : Addr} {fd : FuncData} {ps : List Str} {m : M} {es : List Expr} {tr : TDs} (i : Nat) (G : DF X.prog X.w X.K X.mg X.base k f fd ps m) (B : BC X F0 k E') (hk : PySem.W.keepIn X.K (.ref f) = true) (hb : Binds X.K fd ps []) (ha : DA X F0 (e :: es) tr)
    (hN : X.N[i]? = some x := by rfl) (hv : Vis X.env.scope x := by first | exact Or.inl rfl | exact Or.inr (Or.inl rfl) | exact Or.inr (Or.inr rfl)) (hdb : (x == ("__debug__" : Str)) = false := by decide) (hcd : (x == ("__classdict__" : Str)) = false := by decide)
    (he : starEach (e :: es) X.env = (false, eval e X.env) :: starEach es X.env := by rfl) (hpl : (backTo pos (starEach es X.env)).any (·.1) = false := by rfl) :
    DE X F0 (.Call (.Name x p) (e :: es) [] pos) (tdCallL i f m ps.length E' tr) := by
  obtain ⟨E, hp, hE⟩ := B.pass
  refine PE.weak (pd_callL (E := E) (i := i) G B.room hN hv hk hb hp ha hdb hcd he hpl) fun σ H Q ⟨F, S, ρ, Q', a, ⟨h0, h⟩, p⟩ => ?_
  obtain ⟨v, h1, h2⟩ := a.env.2 i _ h0
  obtain rfl := h2.ref_e
  exact ⟨h1, call_go hE ⟨F, S, ρ, Q', a, h, p⟩ fun _ _ _ z => z⟩
end
/-- the suite's ends: its name is gone behind it -/
def DEnds.unset (D : DEnds) (i : Nat) : DEnds := { nx := fun ρ S => D.nx (ρ.set i none) S, rt := D.rt, bk := fun ρ S => D.bk (ρ.set i none) S, ct := fun ρ S => D.ct (ρ.set i none) S }
/-- the exception's dict, as the suite finds it -/
def XfH (K : PySem.W.Frag) (F0 : Ent) (d : Option Addr) (fs : List (Str × D)) : Prop := ∃ dd ws, d = some dd ∧ F0.H dd = some (.xd ws) ∧ F0.S dd = none ∧ RelF K F0.F fs ws
theorem SR.xd_none {K : PySem.W.Frag} {F : Hp} {S : Store} {H : Hp} {b : Addr} {ws : List (Str × V)} (sr : SR K F S H) (h : H b = some (.xd ws)) : S b = none := by
  cases q : S b with
  | none => rfl
  | some o =>
    obtain ⟨_, ho, h2, h3⟩ := sr.obj b o q
    rw [h] at h2; cases h2
    cases o with
    | lst ds =>
      obtain ⟨_, z, _⟩ := h3
      cases z
    | dic ds =>
      obtain ⟨_, z, _⟩ := h3
      cases z
    | ins ds =>
      obtain ⟨_, _, z, _⟩ := h3
      cases z
section
variable {X : Cx} {x n : Str} {C : Addr} {i : Nat} {body suite : List Stmt} {b₀ : Stmt} {np pos pos' : Pos} {tb : XD → TDS} {ts : Addr → List (Str × D) → TDS} {k : Nat} {F0 : Ent}
def tdTry (C : Addr) (i n : Nat) (tb : XD → TDS) (ts : Addr → List (Str × D) → TDS) : TDS := fun D ρ S =>
  tb (fun x S' => x.C = C ∧ x.fs ≠ [] ∧ ∀ a, ts a x.fs (D.unset i) ((List.replicate n none).set i (some (.ref a))) S') D ρ S
theorem ds_try_as (i : Nat) (hs : X.stack = X.env :: X.outer) (hf : X.env.frame = some X.env.locals) (hr : Rm k X.A) (hcalm : X.calm = true) (hN : X.N.Nodup) (hi : X.N[i]? = some n) (hln : X.env.kindOf n = some .local) (hc : Names X x (.ref C)) (hx : PySem.W.exmOne X.K (.ref C) (.ref C) = some true)
    (hb : ∀ (F1 : Ent) (pn : List (Addr × Obj)) (xe : Value → Shared → Prop) (E' : XD), PassesOwn (model X.prog X.w) X.A X.env xe → BC (X.tr pn xe) F1 k E' → DSs (X.tr pn xe) F1 body (tb E'))
    (hsu : ∀ (F1 : Ent) (a : Addr) (oe : Obj) (d : Option Addr) (fs : List (Str × D)) (pn : List (Addr × Obj)), Zc (.ref C) d oe → (∃ vs, oe.data = .fields vs) → XfH X.K F1 d fs → DSs (X.suite a ((a, oe) :: pn)) F1 (b₀ :: suite) (ts a fs)) :
    DS X F0 (.Try body [.ExceptHandler (some (.Name x np)) (some n) (b₀ :: suite) pos'] [] [] pos) (tdTry C i X.N.length tb ts) := by
  refine PS.weak (ps_try_as (i := i) (c := .ref C) (Wout := fun _ _ _ _ => False) (ts := fun a cls d D σ H => ∃ F1 fs, cls = .ref C ∧ XfH X.K F1 d fs ∧ SL X.K F1 (ts a fs) D σ H)
    (tb := fun W D σ H => ∃ F1 E', (∀ F' S' H' x cls od (σ : L2.St), σ.length = X.N.length → Ext F1.F F1.S F1.H F' S' H' → SR X.K F' S' H' → ExnRel X.K F' x cls od H' → E' x S' → W cls od σ H') ∧ SL X.K F1 (tb E') D σ H)
    hs hf hN hi hln hc (fun u s' ⟨a, B, sI, pins, σ, H, cls, d, e, I, nb, up, sky, na, os, ag, w⟩ => w.elim) (fun W pn xe tk po => ?_) (fun a oe cls d pn hz hv => ?_)) fun D σ H ⟨F, S, ρ, D', a, h, p⟩ => ?_
  · exact ⟨fun pins s σ H D I ⟨F1, E', hE, h⟩ => (hb F1 pn xe E' po ⟨hr, hcalm, W, tk, hE⟩).run pins s σ H D I h⟩
  · refine ⟨fun pins s σ H D I ⟨F1, fs, e1, e2, h⟩ => ?_⟩
    subst e1
    exact (hsu F1 a oe d fs pn hz hv e2).run pins s σ H D I h
  · refine ⟨⟨F, S, H⟩, _, fun F' S' H' y cls od σ' hl z sr er q => ?_, F, S, ρ, D', ⟨Ext.refl _ _ _, a.sr, a.env⟩, h, p⟩
    obtain ⟨q1, q2, q3⟩ := q
    obtain ⟨e1, e2⟩ := er
    rw [q1] at e1; subst e1
    refine ⟨true, hx, fun _ a _ => ?_, fun z => by cases z⟩
    rcases e2 with ⟨_, z⟩ | ⟨dd, ws, e3, e4, e5⟩
    · exact absurd z q2
    · refine ⟨⟨F', S', H'⟩, y.fs, rfl, ⟨dd, ws, e3, e4, sr.xd_none e4, e5⟩, F', S', _, D'.unset i, ⟨Ext.refl _ _ _, sr, ?_⟩, q3 a, ?_⟩
      · refine RelE.set (d := .ref a) (v := .ref a) ⟨by simp [hl], fun j d q => ?_⟩ (.ref_i _) i
        rw [List.getElem?_replicate] at q
        split at q <;> cases q
      · exact ⟨fun σ1 H1 F1 S1 ρ1 y1 sr1 ev q => p.1 _ _ _ _ _ (z.trans y1) sr1 (ev.unset i none) q, fun v H1 F1 S1 d y1 sr1 rd q => p.2.1 _ _ _ _ _ (z.trans y1) sr1 rd q,
          fun σ1 H1 F1 S1 ρ1 y1 sr1 ev q => p.2.2.1 _ _ _ _ _ (z.trans y1) sr1 (ev.unset i none) q, fun σ1 H1 F1 S1 ρ1 y1 sr1 ev q => p.2.2.2 _ _ _ _ _ (z.trans y1) sr1 (ev.unset i none) q⟩
theorem ds_tryN (i ln : Nat) (hln2 : X.N.length = ln) (hs : X.stack = X.env :: X.outer) (hf : X.env.frame = some X.env.locals) (hr : Rm k X.A) (hcalm : X.calm = true) (hN : X.N.Nodup) (hi : X.N[i]? = some n) (hln : X.env.kindOf n = some .local) (hc : Names X x (.ref C)) (hx : PySem.W.exmOne X.K (.ref C) (.ref C) = some true)
    (hb : ∀ (F1 : Ent) (pn : List (Addr × Obj)) (xe : Value → Shared → Prop) (E' : XD), PassesOwn (model X.prog X.w) X.A X.env xe → BC (X.tr pn xe) F1 k E' → DSs (X.tr pn xe) F1 body (tb E'))
    (hsu : ∀ (F1 : Ent) (a : Addr) (oe : Obj) (d : Option Addr) (fs : List (Str × D)) (pn : List (Addr × Obj)), Zc (.ref C) d oe → (∃ vs, oe.data = .fields vs) → XfH X.K F1 d fs → DSs (X.suite a ((a, oe) :: pn)) F1 (b₀ :: suite) (ts a fs)) :
    DS X F0 (.Try body [.ExceptHandler (some (.Name x np)) (some n) (b₀ :: suite) pos'] [] [] pos) (tdTry C i ln tb ts) := hln2 ▸ ds_try_as i hs hf hr hcalm hN hi hln hc hx hb hsu
def tdXf (a : Addr) (fs : List (Str × D)) (f : Str) (te : TD) : TD := fun ρ S Q => te ρ S fun x S1 => x = .ref a ∧ ∃ v, fs.lookup f = some v ∧ Q v S1
theorem de_xf {a : Addr} {oe : Obj} {d : Option Addr} {fs : List (Str × D)} {pn : List (Addr × Obj)} {e : Expr} {te : TD} {f : Str} {p : Pos} (T : XfC X.K C) (hno : PySem.W.findIn X.K (.ref C) f = some none)
    (hz : Zc (.ref C) d oe) (hv : ∃ vs, oe.data = .fields vs) (hd : XfH X.K F0 d fs) (he : DE (X.suite a ((a, oe) :: pn)) F0 e te) (hb : attributeBase e f X.env (eval e X.env) = eval e X.env := by rfl) :
    DE (X.suite a ((a, oe) :: pn)) F0 (.Attribute e f p) (tdXf a fs f te) := PE.weak (pe_xf T hno hz hv he hb) fun σ H Q ⟨F, S, ρ, Q', at0, h, pp⟩ => by
  refine EL.go at0 h fun v H1 F1 S1 x x1 a1 r1 ⟨e1, u, e2, q⟩ => ?_
  subst e1
  obtain ⟨dd, ws, e3, e4, e5, e6⟩ := hd
  obtain ⟨w, l1, l2⟩ := e6.lookup e2
  exact ⟨r1.ref_e, rfl, dd, ws, w, e3, a1.f0.off dd _ e4 e5, l1, pp.of x1 a1.sr (RelD.mono a1.f0.same _ _ l2) q⟩
end
section
open PySem.W PySem.Calls
theorem find_data {K : PySem.W.Frag} {C : Addr} {od : Option Obj} {name : Str} {a g : Value} (hc : (clsIn K C).isSome = true) (ha : findIn K (.ref C) name = some (some a)) (hg : specialIn K a "__get__" = some (some g)) (ht : takesIn K a = some true) : findObj K C od name = some (.bind g a) := by
  obtain ⟨cd, hc⟩ := Option.isSome_iff_exists.mp hc
  unfold findObj; rw [hc, Option.bind_some, ha, Option.bind_some]; simp [hg, ht]
theorem classX {prog : Program} {w : World} {A : Around} {E : Value → Shared → Prop} {s : Shared} {K : PySem.W.Frag} {x D : Addr} {ox : Obj} {od : Option Obj} {Q : Option Value → Shared → Prop} (c : ExcC K D)
    (X : K.In s.heap) (I : InstAt s.heap x ox D od) (h : Q (some (.ref D)) { s with toks := s.toks + 1 }) : wpAny (model prog w) A (getAttr? (.ref x) "__class__") Q E s := by
  have hf : findObj K D od "__class__" = some (.bind (.builtin "getset_descriptor.__get__") (.builtin "object.__class__")) := find_data (by obtain ⟨cd, hc, _⟩ := any_some c.hd; rw [hc]; rfl) c.ha c.hn c.ht
  obtain ⟨hp, g, d, t, os⟩ := s
  have M0 := I.type (M := model prog w)
  have M1 := looks_findIn (M := model prog w) X c.hg
  have M2 := looks_findIn (M := model prog w) X c.hk
  have M3 := looks_find (M := model prog w) X I hf
  have sub : Looks (model prog w) hp (isInstance (.ref x) (.type "BaseException")) true := M0.andThen (looks_subIn X c.hs)
  have y2 : (Value.builtin "BaseException.__getattribute__" == Value.builtin "object.__getattribute__") = false := by decide +kernel
  have y1 : (onTheHeap (Value.ref D) && Value.builtin "BaseException.__getattribute__" == Value.builtin "object.__getattribute__") = false := by rw [y2]; rfl
  unfold getAttr? getAttrBy? getAttrBy; refine wpAny_bind (wpAny_mkText (wpAny_bind (wpAny_attempt (wpAny_holding (wpAny_bind (M0.at (wpAny_bind (M1.at ?_))))))))
  show wpAny _ _ (if (onTheHeap (Value.ref D) && Value.builtin "BaseException.__getattribute__" == Value.builtin "object.__getattribute__") = true then (_) else _) _ _ _
  rw [y1, if_neg Bool.false_ne_true]; unfold getAttrByItsOwn hookBefore; refine wpAny_bind ?_
  rw [if_pos (show onTheHeap (Value.ref D) = true by rfl)]; refine M2.at ?_; refine wpAny_bind (wpAny_attempt (wpAny_holding ?_))
  unfold callGetattribute; rw [show (false && onTheHeap (Value.builtin "BaseException.__getattribute__")) = false by rfl, if_neg Bool.false_ne_true]; unfold boundAndCalled
  rw [PySem.F.excAttr_ValueError.ga.bind (.ref x)]; refine wpAny_bind (wpAny_pure ?_)
  show wpAny _ _ (call (.builtin "BaseException.__getattribute__") [.ref x, .str "__class__" t] []) _ _ _
  refine wpAny_call (codeAny_call_builtin (PySem.F.excAttr_ValueError.ga.plain) (PySem.F.entry_bexc_ga) ?_)
  refine @check_slot (model prog w) _ _ (⟨hp, g, d, t + 1, os⟩ : Shared) "BaseException.__getattribute__" "BaseException" "__getattribute__" (.ref x) [.str "__class__" t] [] _ (by decide +kernel) (by decide +kernel) sub (PySem.F.args_bexc_ga (.ref x) (.str "__class__" t)) ?_
  unfold Builtin.«object.__getattribute__»; refine wpAny_bind (wpAny_of_eq (a := ((Value.ref x : Value), [Value.str "__class__" t])) (by first | rfl | (simp only [slotArgs]; rfl)) ?_)
  refine wpAny_bind (wpAny_pure (wpAny_bind (M0.at (wpAny_bind (M3.at ?_)))))
  show wpAny _ _ (holding [Value.builtin "object.__class__"] (call (.builtin "getset_descriptor.__get__") [.builtin "object.__class__", .ref x, .ref D] []) >>= ret) _ _ _
  refine wpAny_bind (wpAny_holding (wpAny_call (class_get (s := (⟨hp, g, d, t + 1, os⟩ : Shared)) (ox := ox) (od := od) X I c.hm ?_)))
  refine wpAny_pure ?_; show wpAny _ _ (handedOut (.ref D)) _ _ _; rw [handedOut_of (v := .ref D) rfl]
  first | exact wpAny_pure (wpAny_pure h) | exact wpAny_pure h | exact wpAny_pure (wpAny_bind (wpAny_pure (wpAny_pure h)))
theorem kitX_exc {K : PySem.W.Frag} {x D : Addr} {ox : Obj} {od : Option Obj} (c : ExcC K D) : KitX K (.ref x) (.ref D) (fun h => InstAt h x ox D od) := by
  have key : ∀ (h : Heap), K.In h → ∃ c' d' cd' sl', h.get? D = some ⟨c', d', .cls cd', sl'⟩ := fun h X => by
    obtain ⟨cdD, hcD, _⟩ := any_some c.hd
    unfold clsIn at hcD
    split at hcD
    · rename_i c' d' cd' sl' ho; exact ⟨c', d', cd', sl', X _ _ ho⟩
    · cases hcD
  refine ⟨fun M h X I => I.type, fun M h X I => ?_, fun h tp dd its n sl X htp => ?_, fun X I q => classX c X I q⟩
  · obtain ⟨c', d', cd', sl', ho⟩ := key h X
    intro A Q E s k q; unfold isType loadHead; exact wpAny_bind (wpAny_loadPart (k _ _ ho) (wpAny_pure q))
  · obtain ⟨c', d', cd', sl', ho⟩ := key h X
    refine Bool.eq_false_iff.mpr fun q => ?_
    have e : D = tp := Value.ref.inj (beq_iff_eq.mp q)
    subst e; rw [ho] at htp; cases htp
end
section
variable {X : Cx} {F0 : Ent} {C : Addr}
/-- isinstance(error, B) in an except suite, B an own class -/
def tdIsX (a : Addr) (b : Bool) (te : TD) : TD := fun ρ S Q => te ρ S fun x S1 => x = .ref a ∧ Q (.bl b) S1
theorem de_isX {a CB : Addr} {oe : Obj} {d : Option Addr} {fs : List (Str × D)} {pn : List (Addr × Obj)} {e : Expr} {te : TD} {y : Str} {p p1 p2 : Pos} {b : Bool} (c : ExcC X.K C) (hk : PySem.W.kitOne X.K (.ref C) (.ref CB) = some b)
    (hz : Zc (.ref C) d oe) (hv : ∃ vs, oe.data = .fields vs) (hd : XfH X.K F0 d fs) (he : DE (X.suite a ((a, oe) :: pn)) F0 e te) (hg : Gl X "isinstance") (hm : X.mg "isinstance" = none) (hgy : Gl X y) (hmy : X.mg y = some (.ref CB))
    (hdy : (y == ("__debug__" : Str)) = false := by decide) (hs : starEach (e :: [.Name y p2]) X.env = (false, eval e X.env) :: starEach [.Name y p2] X.env := by rfl) (hpl : (backTo p (starEach [.Name y p2] X.env)).any (·.1) = false := by rfl) :
    DE (X.suite a ((a, oe) :: pn)) F0 (.Call (.Name "isinstance" p1) (e :: [.Name y p2]) [] p) (tdIsX a b te) := by
  refine PE.weak (pe_callB (X := X.suite a ((a, oe) :: pn)) (id := "isinstance") (r := fun xs H Q => xs = [.ref a, .ref CB] ∧ (∃ dd ws, d = some dd ∧ H dd = some (.xd ws)) ∧ Q (.bl b) H) (fun pins s σ H xs us Q I r ⟨e1, ⟨dd, ws, e2, e3⟩, q⟩ => ?_) hg hm PyProof.Rows.boot_isinstance
    (pa_cons he (pa_cons (pe_glob (v := .ref CB) hgy hmy rfl hdy) pa_nil) hs) (by decide) (by decide) hs hpl) fun σ H Q ⟨F, S, ρ, Q', at0, h, pp⟩ => ?_
  · subst e1 e2
    cases r with
    | cons rx rr =>
      cases rr with
      | cons rt rr =>
        cases rr; cases rx; cases rt
        obtain ⟨hget, _⟩ := I.pin (a, oe) (List.mem_append.mpr (.inl List.mem_cons_self))
        obtain ⟨vs, hv⟩ := hv
        obtain ⟨mA, ⟨oD, esD, epD, hoD, _⟩, _⟩ := (show ObjOk X.prog X.w H s.heap dd (.xd ws) from I.hok dd _ e3)
        have J : PySem.W.InstAt s.heap a oe C (some oD) := ⟨hget, hz.1, by unfold PySem.W.notCls; rw [hv] <;> rfl, by rw [hz.2]; exact hoD⟩
        exact PySem.W.kia_one (kitX_exc c) I.kIn J hk (fun z => nomatch z) fun tk => ⟨.bl b, H, I.kept (t' := tk) fun _ _ z => z, rfl, q⟩
  · refine EL.go at0 h fun v H1 F1 S1 x x1 a1 r1 ⟨e1, q⟩ => ?_
    subst e1
    obtain rfl := r1.ref_e
    obtain ⟨dd, ws, e3, e4, e5, e6⟩ := hd
    exact ⟨rfl, ⟨dd, ws, e3, a1.f0.off dd _ e4 e5⟩, pp.of x1 a1.sr (.bl_i _) q⟩
end
section
variable {X : Cx} {F0 : Ent} {C : Addr} {e : Expr} {te : TD} {p p2 pos : Pos} {x : Str} {k : Nat}
def tdXp (te : TD) : TD := fun ρ S Q => te ρ S fun d S1 => ∃ i : Nat, d = .int i ∧ i ≤ 1000000 ∧ Q (.int i) S1
/-- C(e).position -/
theorem de_xp (R : RX X.prog X.w X.K X.mg X.base C) (T : XfC X.K C) (hno : PySem.W.findIn X.K (.ref C) "position" = some none) (hr : Room 2 X.A) (hg : Gl X x) (hm : X.mg x = some (.ref C)) (he : DE X F0 e te)
    (hdb : (x == ("__debug__" : Str)) = false := by decide) (hs : starEach (e :: []) X.env = (false, eval e X.env) :: starEach [] X.env := by rfl) (hpl : (backTo pos (starEach [] X.env)).any (·.1) = false := by rfl)
    (hb : attributeBase (.Call (.Name x p) [e] [] pos) "position" X.env (eval (.Call (.Name x p) [e] [] pos) X.env) = eval (.Call (.Name x p) [e] [] pos) X.env := by rfl) :
    DE X F0 (.Attribute (.Call (.Name x p) [e] [] pos) "position" p2) (tdXp te) := by
  obtain ⟨fI, fd, i1, i2, i3, i4⟩ := R.make
  have pk := pmk_oex (p := p) (pos := pos) (CX := CX0) (k := 1) (ds := []) (dvs := []) R.T i1 i2 i3 hr i4 .nil (fun _ _ _ _ _ _ _ z => z.elim) hg hm (pa_cons he pa_nil hs) hdb hs hpl
  refine ⟨fun pins s σ H Q I ⟨F, S, ρ, Q', a, h, pp⟩ => ?_⟩
  refine attr_of hb (wpAny_mono (pk pins s σ H (fun cls od H' => cls = .ref C ∧ ∃ dx ws i, od = some dx ∧ H' dx = some (.xd ws) ∧ ws.lookup ("position" : Str) = some (V.int i) ∧ Q (.int i) H') I (EL.go a h fun v H1 F1 S1 d x1 a1 r1 ⟨i, e1, e2, q⟩ => ?_)) (fun u s1 hu => ?_) fun _ _ z => z)
  · subst e1
    obtain rfl := r1.int_e
    refine ⟨by simp, fun ea hea => ⟨ea, i, rfl, e2, upd_same, fun dx n ne => ⟨rfl, dx, [("position", .int i)], upd_same, ?_, ?_, rfl, dx, [("position", .int i)], i, rfl, ?_, rfl, ?_⟩⟩⟩
    · rw [upd_ne ne, upd_same]
    · rw [upd_ne ne] at n; exact n
    · rw [upd_same]
    · have n1 : H1 dx = none := by rw [upd_ne ne] at n; exact n
      have eH : upd (del (upd (upd (upd H1 ea (exo ea C none)) dx (exd dx [("position", .int i)])) ea (exo ea C (some dx))) ea) dx (.xd [("position", V.int i)]) = upd H1 dx (.xd [("position", V.int i)]) := by
        funext b
        by_cases hb : b = dx
        · rw [hb, upd_same, upd_same]
        · rw [upd_ne hb, upd_ne hb]
          by_cases hc : b = ea
          · rw [hc, del_same, hea]
          · rw [del_ne hc, upd_ne hc, upd_ne hb, upd_ne hc]
      rw [eH]
      have xl : Ext F1 S1 H1 F1 S1 (upd H1 dx (.xd [("position", V.int i)])) := by
        refine ⟨Same.refl _, fun b u q _ => ?_, fun _ q g => absurd g q, fun _ q => .inl q⟩
        rw [upd_ne]; exact q
        intro z; rw [z, n1] at q; cases q
      exact pp.of (x1.trans xl) (a1.sr.laid n1) (.int_i _) q
  · obtain ⟨ea, oe, vs, sI, H', cls, od, e0, J, kk, hne, ha, hz, hd, h1, na, os, ag, r, ec, dx, ws, i, ed, hx, hl, q⟩ := hu
    subst e0 ec ed
    have J1 : L2.Inv X pins σ H' s1 := by
      have J2 := J.call (g' := s1.gens) (t' := s1.toks) (d' := s1.drawn) (h' := s1.heap) (H' := H') (ch := []) (Un.kept kk) (J.hok.kept kk) ag (fun _ z => nomatch z)
      have es : ({ sI with heap := s1.heap, gens := s1.gens, drawn := s1.drawn, toks := s1.toks } : Shared) = s1 := by
        obtain ⟨h1, g1, d1, t1, o1⟩ := s1
        obtain ⟨h2, g2, d2, t2, o2⟩ := sI
        dsimp only at os ⊢
        rw [os]
      rw [es] at J2; exact J2
    have hxx : ObjOk X.prog X.w H' s1.heap dx (.xd ws) := J1.hok dx _ hx
    obtain ⟨mA, hns, hr'⟩ := hxx
    obtain ⟨oD, ho, hlk⟩ := lookIn_ns hns
    obtain ⟨u, hu, ru⟩ := RelO.some_of (v := V.int i) (o := mA "position") (by rw [← hl]; exact hr' "position")
    have IA : PySem.W.InstAt s1.heap ea oe C (some oD) := ⟨ha, hz.1, by unfold PySem.W.notCls; rw [hd] <;> rfl, by rw [hz.2]; exact ho⟩
    exact PySem.HandSPX.exc_get J1.kIn IA T.ga T.gg T.exC (PySem.W.findObj_own T.hdC hno rfl (by rw [hlk, hu])) (handed_of ru) ⟨_, H', J1.tok _, ru, q⟩
end
end DL
namespace DL
open PySem PySem.Spec L2
section
variable (P : Program) (w : World) (K : PySem.W.Frag) (mg : Str → Option Value) (base : Heap)
/-- a def that may be called by its name -/
structure Ca (k : Nat) (x : Str) (ps : List Str) (m : M) : Prop where
  ex : ∃ (f : Addr) (fd : FuncData), DF P w K mg base k f fd ps m ∧ mg x = some (.ref f) ∧ PySem.W.keepIn K (.ref f) = true ∧ Binds K fd ps []
/-- a method -/
structure Me (k : Nat) (C : Addr) (mn : Str) (ps : List Str) (m : M) : Prop where
  ex : ∃ (f : Addr) (fd : FuncData), DF P w K mg base k f fd ps m ∧ Meth K C mn f ∧ Binds K fd ps []
  cl : Cls K C
/-- a class with an __init__ -/
structure Ma (k : Nat) (x : Str) (C : Addr) (ps : List Str) (m : M) : Prop where
  ex : ∃ (f : Addr) (fd : FuncData), DF P w K mg base k f fd ps m ∧ Mk K C f ∧ mg x = some (.ref C) ∧ Binds K fd ps []
end
section
variable {P : Program} {w : World} {K : PySem.W.Frag} {mg : Str → Option Value} {base : Heap} {k j : Nat} {x mn : Str} {ps : List Str} {m m' : M} {C : Addr}
theorem Ca.mono (G : Ca P w K mg base j x ps m) (h : j ≤ k) : Ca P w K mg base k x ps m := let ⟨f, fd, h1, h2⟩ := G.ex; ⟨f, fd, h1.mono h, h2⟩
theorem Me.mono (G : Me P w K mg base j C mn ps m) (h : j ≤ k) : Me P w K mg base k C mn ps m := let ⟨f, fd, h1, h2⟩ := G.ex; ⟨⟨f, fd, h1.mono h, h2⟩, G.cl⟩
theorem Ma.mono (G : Ma P w K mg base j x C ps m) (h : j ≤ k) : Ma P w K mg base k x C ps m := let ⟨f, fd, h1, h2⟩ := G.ex; ⟨f, fd, h1.mono h, h2⟩
end
section
variable {X : Cx} {F0 : Ent} {e o : Expr} {es : List Expr} {to te : TD} {tr : TDs} {p apos pos : Pos} {x mn : Str} {C : Addr} {k : Nat} {E' : XD} {ps : List Str} {m : M}
theorem BC.blk {s : Shared} {H : Hp} {scope : Scope} {cenv : Env} {fp : List Addr} (B : BC X F0 k E') : BC (X.blk s H scope cenv fp) F0 k noX := BC.none B.room B.calm
theorem de_ca (G : Ca X.prog X.w X.K X.mg X.base k x ps m) (B : BC X F0 k E') (hg : Gl X x) (ha : DA X F0 (e :: es) tr)
    (hdb : (x == ("__debug__" : Str)) = false := by decide) (he : starEach (e :: es) X.env = (false, eval e X.env) :: starEach es X.env := by rfl) (hpl : (backTo pos (starEach es X.env)).any (·.1) = false := by rfl) :
    DE X F0 (.Call (.Name x p) (e :: es) [] pos) (tdCall m ps.length E' tr) := by
  obtain ⟨f, fd, h1, h2, h3, h4⟩ := G.ex
  exact de_call h1 B hg h2 h3 h4 ha hdb he hpl
theorem de_ca0 (G : Ca X.prog X.w X.K X.mg X.base k x ps m) (B : BC X F0 k E') (hg : Gl X x) (hdb : (x == ("__debug__" : Str)) = false := by decide) :
    DE X F0 (.Call (.Name x p) [] [] pos) (tdCall m ps.length E' tdNil) := by
  obtain ⟨f, fd, h1, h2, h3, h4⟩ := G.ex
  exact de_call0 h1 B hg h2 h3 h4 hdb
theorem de_me {pl : Sem Bool} (ho : DE X F0 o to) (G : Me X.prog X.w X.K X.mg X.base k C mn ps m) (B : BC X F0 k E') (ha : DA X F0 (e :: es) tr)
    (hst : starEach (e :: es) X.env = (false, eval e X.env) :: starEach es X.env := by rfl) (hpl : (backTo pos (starEach es X.env)).any (·.1) = false := by rfl)
    (ht : eval (.Call (.Attribute o mn apos) (e :: es) [] pos) X.env = (do
      let ov ← eval o X.env
      standAt apos.atName
      let (f, first) ← holding [ov] (getMethod ov mn pl)
      callWith pos f first (backTo pos (starEach (e :: es) X.env)) (backToKw pos (keywordEach [] X.env))) := by rfl) : DE X F0 (.Call (.Attribute o mn apos) (e :: es) [] pos) (tdMeth C mn m ps.length E' to tr) := by
  obtain ⟨f, fd, h1, h2, h3⟩ := G.ex
  exact de_meth ho G.cl h2 h1 B h3 ha hst hpl ht
theorem de_me0 {pl : Sem Bool} (ho : DE X F0 o to) (G : Me X.prog X.w X.K X.mg X.base k C mn ps m) (B : BC X F0 k E')
    (ht : eval (.Call (.Attribute o mn apos) [] [] pos) X.env = (do
      let ov ← eval o X.env
      standAt apos.atName
      let (f, first) ← holding [ov] (getMethod ov mn pl)
      callWith pos f first (backTo pos (starEach [] X.env)) (backToKw pos (keywordEach [] X.env))) := by rfl) : DE X F0 (.Call (.Attribute o mn apos) [] [] pos) (tdMeth C mn m ps.length E' to tdNil) := by
  obtain ⟨f, fd, h1, h2, h3⟩ := G.ex
  exact de_meth0 ho G.cl h2 h1 B h3 ht
theorem de_ma (G : Ma X.prog X.w X.K X.mg X.base k x C ps m) (B : BC X F0 (k + 1) E') (hg : Gl X x) (ha : DA X F0 (e :: es) tr)
    (hdb : (x == ("__debug__" : Str)) = false := by decide) (he : starEach (e :: es) X.env = (false, eval e X.env) :: starEach es X.env := by rfl) (hpl : (backTo pos (starEach es X.env)).any (·.1) = false := by rfl) :
    DE X F0 (.Call (.Name x p) (e :: es) [] pos) (tdMake C m ps.length E' tr) := by
  obtain ⟨f, fd, h1, h2, h3, h4⟩ := G.ex
  exact de_make h2 h1 B hg h3 h4 ha hdb he hpl
/-- globals -/
theorem de_gstr {z : Str} {t : Tx} (hm : ∃ tk, X.mg x = some (.str z tk)) (hg : Gl X x) (hz : z = tS t := by first | exact ofString_tx _ | rfl) (hd : (x == ("__debug__" : Str)) = false := by decide) : DE X F0 (.Name x pos) (tdC (.str t)) := by
  obtain ⟨tk, hm⟩ := hm
  subst hz
  exact de_glob (v := .str (tS t)) hg hm ⟨_, rfl⟩ (fun _ => .str_i _) hd
theorem de_gint {i : Int} (hm : ∃ tk, X.mg x = some (.int i tk)) (hg : Gl X x) (hd : (x == ("__debug__" : Str)) = false := by decide) : DE X F0 (.Name x pos) (tdC (.int i)) := by
  obtain ⟨tk, hm⟩ := hm
  exact de_glob (v := .int i) hg hm ⟨_, rfl⟩ (fun _ => .int_i _) hd
theorem de_gref {a : Addr} (hm : X.mg x = some (.ref a)) (hg : Gl X x) (hd : (x == ("__debug__" : Str)) = false := by decide) : DE X F0 (.Name x pos) (tdC (.ref a)) :=
  de_glob (v := .ref a) hg hm rfl (fun _ => .ref_i _) hd
theorem rdS {K : PySem.W.Frag} {F : Hp} : ∀ {ts : List Tx} {zs : List Str}, zs = ts.map tS → RelDs K F (ts.map D.str) (zs.map V.str)
  | [], _, h => by subst h; unfold RelDs; rfl
  | t :: ts, _, h => by
    subst h
    unfold RelDs
    exact ⟨_, _, rfl, .str_i _, rdS rfl⟩
theorem de_gtup {zs : List Str} {ts : List Tx} {a : Addr} (hm : X.mg x = some (.ref a)) (hT : ∀ H, SqT X.K H a (zs.map V.str)) (hz : zs = ts.map tS) (hg : Gl X x) (hd : (x == ("__debug__" : Str)) = false := by decide) : DE X F0 (.Name x pos) (tdC (.tup (ts.map D.str))) :=
  de_glob (v := .ref a) hg hm rfl (fun F => .tup_i (hT F) (rdS hz)) hd
end
section
variable {X : Cx} {F0 : Ent} {e o : Expr} {t to : TD} {f : Str} {pos pos' : Pos}
theorem de_fldK (K : PySem.W.Frag) (hK : X.K = K) (he : DE X F0 e t) (hb : attributeBase e f X.env (eval e X.env) = eval e X.env := by rfl) : DE X F0 (.Attribute e f pos) (tdFldC K t f) := hK ▸ de_fld he hb
theorem ds_putFK (K : PySem.W.Frag) (hK : X.K = K) (ho : DE X F0 o to) (he : DE X F0 e t) (hs : swapsWith e (some (.Attribute o f pos')) pos.line X.env = pure false := by rfl) : DS X F0 (.Assign [.Attribute o f pos'] e pos) (tdPutF K to t f) := hK ▸ ds_putF ho he hs
theorem ds_augFK (K : PySem.W.Frag) (hK : X.K = K) {op : Operator} {g : Int → Int → Int} {rd : V → V → Hp → VK → Prop} (ho : DE X F0 o to) (he : DE X F0 e t) (hop : InOp X op rd) (hrd : ∀ i j H (Q : VK), Q (.int (g i j)) H → rd (.int i) (.int j) H Q) :
    DS X F0 (.AugAssign (.Attribute o f pos') op e pos) (tdAugF K to t f g) := hK ▸ ds_augF ho he hop hrd
end
section
variable {X : Cx} {F0 : Ent} {e : Expr} {t : TD} {pos : Pos}
def tdNeg (t : TD) : TD := fun ρ S Q => t ρ S fun d S1 => ∃ i, d = .int i ∧ Q (.int (-i)) S1
theorem de_neg (he : DE X F0 e t) : DE X F0 (.UnaryOp .USub e pos) (tdNeg t) := PE.weak (pe_un un_neg he) fun σ H Q ⟨F, S, ρ, Q', a, h, p⟩ => EL.go a h fun v H1 F1 S1 d x1 a1 r1 ⟨i, e1, q⟩ => by
  subst e1
  exact ⟨i, r1.int_e, p.of x1 a1.sr (.int_i _) q⟩
end
theorem bb_len : bootBuiltins "len" = some (.builtin "len") := (by decide +kernel)
theorem bb_max : bootBuiltins "max" = some (.builtin "max") := (by decide +kernel)
theorem bb_isinstance : bootBuiltins "isinstance" = some (.builtin "isinstance") := (by decide +kernel)
theorem bb_int : bootBuiltins "int" = some (.type "int") := (by decide +kernel)
theorem bb_str : bootBuiltins "str" = some (.type "str") := (by decide +kernel)
theorem bb_bool : bootBuiltins "bool" = some (.type "bool") := (by decide +kernel)
theorem bb_list : bootBuiltins "list" = some (.type "list") := (by decide +kernel)
theorem bb_tuple : bootBuiltins "tuple" = some (.type "tuple") := (by decide +kernel)
theorem while_ind {c : TDT} {tb : TDS} {D : DEnds} (I : Nat → Rho → Store → Prop)
    (h : ∀ n ρ S (W : Rho → Store → Prop), (∀ ρ S, I n ρ S → W ρ S) → I (n + 1) ρ S → c ρ S (fun b S1 => if b = true then tb { D with nx := W, ct := W, bk := D.nx } ρ S1 else D.nx ρ S1)) :
    (h0 : ∀ ρ S, ¬ I 0 ρ S) → ∀ (n : Nat) (ρ : Rho) (S : Store), I n ρ S → whileN c tb D n ρ S := fun h0 n => by
  induction n with
  | zero => exact fun ρ S hi => absurd hi (h0 ρ S)
  | succ n ih =>
    intro ρ S hi
    unfold whileN
    exact h n ρ S _ ih hi
theorem for_ind {g : TDG} {tb : TDS} {D : DEnds} (I : List DL.D → Rho → Store → Prop) (h0 : ∀ ρ S, I [] ρ S → D.nx ρ S)
    (h : ∀ d ds ρ S (W : Rho → Store → Prop), (∀ ρ S, I ds ρ S → W ρ S) → I (d :: ds) ρ S → g d ρ S fun ρ1 S1 => tb { D with nx := W, ct := W, bk := D.nx } ρ1 S1) :
    ∀ (ds : List DL.D) (ρ : Rho) (S : Store), I ds ρ S → forR g tb D ds ρ S
  | [], ρ, S, hi => h0 ρ S hi
  | d :: ds, ρ, S, hi => by
    unfold forR
    exact h d ds ρ S _ (fun ρ S q => for_ind I h0 h ds ρ S q) hi
theorem lc_ind {v : Nat} {tt : TDT} {te : TD} {ρ : Rho} {Q : List D → Store → Prop} (I : List D → List D → Store → Prop) (h0 : ∀ acc S, I [] acc S → Q acc S)
    (h : ∀ d ds acc S (W : List D → Store → Prop), (∀ acc S, I ds acc S → W acc S) → I (d :: ds) acc S → tt (ρ.set v (some d)) S fun b S1 => if b = true then te (ρ.set v (some d)) S1 fun y S2 => acc.length < sizeLine ∧ W (acc ++ [y]) S2 else W acc S1) :
    ∀ (ds acc : List D) (S : Store), I ds acc S → lcR v tt te ρ ds acc S Q
  | [], acc, S, hi => h0 acc S hi
  | d :: ds, acc, S, hi => by
    unfold lcR
    exact h d ds acc S (fun acc S => lcR v tt te ρ ds acc S Q) (fun acc S q => lc_ind I h0 h ds acc S q) hi
end DL
namespace DL
open PySem PySem.Spec L2
section
variable {α : Type} {xs : List α}
theorem atIn (i : Nat) : atI xs (i : Int) = xs[i]? := by
  unfold atI ixN
  rw [if_pos (by omega)]
  by_cases h : i < xs.length
  · rw [if_pos (by omega)]; simp
  · rw [if_neg (by omega), List.getElem?_eq_none (by omega)]; rfl
theorem atI_0 : atI xs 0 = xs[0]? := atIn 0
theorem atI_1 : atI xs 1 = xs[1]? := atIn 1
theorem atI_2 : atI xs 2 = xs[2]? := atIn 2
theorem atI_3 : atI xs 3 = xs[3]? := atIn 3
theorem atI_4 : atI xs 4 = xs[4]? := atIn 4
theorem atI_m1 : atI xs (-1) = xs.getLast? := by
  unfold atI ixN
  rw [if_neg (by omega)]
  cases xs with
  | nil => simp
  | cons x l =>
    rw [if_pos (by simp; omega)]
    rw [List.getLast?_eq_getElem?]
    show (x :: l)[((-1 : Int) + ((x :: l).length : Nat)).toNat]? = _
    congr 1
    simp; omega
theorem cutL_nn (a b : Nat) : cutL xs (some (a : Int)) (some (b : Int)) = (xs.drop a).take (b - a) := by
  unfold cutL
  rw [HT.sIx_nat, HT.sIx_nat]
  by_cases h : a ≤ xs.length
  · rw [Nat.min_eq_left h]
    by_cases g : b ≤ xs.length
    · rw [Nat.min_eq_left g]
    · rw [Nat.min_eq_right (by omega), List.take_of_length_le (by simp), List.take_of_length_le (by simp; omega)]
  · have e : xs.drop (min a xs.length) = [] := List.drop_eq_nil_of_le (by omega)
    rw [e, List.drop_eq_nil_of_le (show xs.length ≤ a by omega)]; simp
theorem cutL_n (a : Nat) : cutL xs (some (a : Int)) none = xs.drop a := by
  unfold cutL
  rw [HT.sIx_nat]
  show List.take (xs.length - _) _ = _
  by_cases h : a ≤ xs.length
  · rw [Nat.min_eq_left h, List.take_of_length_le (by simp)]
  · rw [Nat.min_eq_right (by omega), List.drop_eq_nil_of_le (Nat.le_refl _), List.drop_eq_nil_of_le (by omega)]; simp
theorem cutL_to (b : Nat) : cutL xs none (some (b : Int)) = xs.take b := by
  unfold cutL
  rw [HT.sIx_nat]
  show List.take (_ - 0) (xs.drop 0) = _
  by_cases g : b ≤ xs.length
  · rw [Nat.min_eq_left g]; simp
  · rw [Nat.min_eq_right (by omega)]
    simp
    rw [List.take_of_length_le (by omega)]
theorem tw_lt (p : α → Bool) : ∀ (l : List α) (j : Nat), j ≤ (l.takeWhile p).length → (j < (l.takeWhile p).length ↔ ∃ c, l[j]? = some c ∧ p c = true)
  | [], j, h => by simp
  | x :: l, j, h => by
    by_cases hx : p x = true
    · rw [List.takeWhile_cons_of_pos hx] at h ⊢
      cases j with
      | zero => simp [hx]
      | succ j =>
        have := tw_lt p l j (by simpa using h)
        simpa using this
    · rw [List.takeWhile_cons_of_neg hx] at h ⊢
      have : j = 0 := by simpa using h
      subst this
      simp [hx]
theorem tw_take (p : α → Bool) : ∀ (l : List α), l.take (l.takeWhile p).length = l.takeWhile p
  | [] => rfl
  | x :: l => by
    by_cases hx : p x = true
    · rw [List.takeWhile_cons_of_pos hx]; simp [tw_take p l]
    · rw [List.takeWhile_cons_of_neg hx]; rfl
theorem tw_le (p : α → Bool) : ∀ (l : List α), (l.takeWhile p).length ≤ l.length
  | [] => Nat.le_refl _
  | x :: l => by
    by_cases hx : p x = true
    · rw [List.takeWhile_cons_of_pos hx]; simp [tw_le p l]
    · rw [List.takeWhile_cons_of_neg hx]; simp
end
theorem gIn_str {f : Bool → Bool} {S : Store} {c : Nat} {z : Tx} {Q : D → Store → Prop} (h : Q (.bl (f (decide (c ∈ z)))) S) : gIn f S (.str [c]) (.str z) Q := ⟨c, rfl, h⟩
theorem fini {Q : D → Store → Prop} {d : D} {S : Store} (h : Q d S) : Fini Q d S := .of h
theorem sz5 {n : Nat} (h : n ≤ 1000000) : n ≤ sizeLine := by rw [sizeLine_eq]; omega
theorem gIn_sc {f : Bool → Bool} {S : Store} {c : Nat} {z : Tx} {Q : D → Store → Prop} : gIn f S (.str [c]) (.str z) Q = Q (.bl (f (decide (c ∈ z)))) S := by
  apply propext
  constructor
  · rintro ⟨c', e, q⟩
    have e' : c = c' := by simpa using e
    subst e'; exact q
  · exact fun q => ⟨c, rfl, q⟩
theorem any_str (x : Tx) : ∀ (l : List Tx), ((l.map D.str).any fun y => eqF y (.str x)) = decide (x ∈ l)
  | [] => rfl
  | y :: l => by
    rw [List.map_cons, List.any_cons, any_str x l]
    show (y == x || _) = _
    by_cases h : y = x
    · simp [h]
    · have h' : ¬ x = y := fun z => h z.symm
      simp [h, h']
theorem all_flat : ∀ (l : List Tx), (l.map D.str).all flatD = true
  | [] => rfl
  | y :: l => by rw [List.map_cons, List.all_cons, all_flat l]; rfl
theorem gIn_ts {f : Bool → Bool} {S : Store} {x : Tx} {ts : List Tx} {Q : D → Store → Prop} : gIn f S (.str x) (.tup (ts.map D.str)) Q = Q (.bl (f (decide (x ∈ ts)))) S := by
  show (flatD (.str x) = true ∧ _ ∧ _) = _
  rw [all_flat, any_str]; simp [flatD]
theorem gIn_ls {f : Bool → Bool} {S : Store} {x : Tx} {ts : List Tx} {Q : D → Store → Prop} : gIn f S (.str x) (.lst (ts.map D.str)) Q = Q (.bl (f (decide (x ∈ ts)))) S := by
  show (flatD (.str x) = true ∧ _ ∧ _) = _
  rw [all_flat, any_str]; simp [flatD]
theorem gIn_t2 {f : Bool → Bool} {S : Store} {x a b : Tx} {Q : D → Store → Prop} : gIn f S (.str x) (.tup [.str a, .str b]) Q = Q (.bl (f (decide (x ∈ [a, b])))) S := gIn_ts (ts := [a, b])
theorem gIn_l2 {f : Bool → Bool} {S : Store} {x a b : Tx} {Q : D → Store → Prop} : gIn f S (.str x) (.lst [.str a, .str b]) Q = Q (.bl (f (decide (x ∈ [a, b])))) S := gIn_ls (ts := [a, b])
theorem gIn_l4 {f : Bool → Bool} {S : Store} {x a b c d : Tx} {Q : D → Store → Prop} : gIn f S (.str x) (.lst [.str a, .str b, .str c, .str d]) Q = Q (.bl (f (decide (x ∈ [a, b, c, d])))) S := gIn_ls (ts := [a, b, c, d])
theorem sl_0 {α : Type} : (([] : List α).length ≤ sizeLine) = True := eq_true (Nat.zero_le _)
theorem sl_1 {α : Type} {a : α} : ([a].length ≤ sizeLine) = True := eq_true (sz5 (show 1 ≤ _ by omega))
theorem sl_2 {α : Type} {a b : α} : ([a, b].length ≤ sizeLine) = True := eq_true (sz5 (show 2 ≤ _ by omega))
theorem sl_3 {α : Type} {a b c : α} : ([a, b, c].length ≤ sizeLine) = True := eq_true (sz5 (show 3 ≤ _ by omega))
theorem sl_4 {α : Type} {a b c d : α} : ([a, b, c, d].length ≤ sizeLine) = True := eq_true (sz5 (show 4 ≤ _ by omega))
theorem sl_5 {α : Type} {a b c d e : α} : ([a, b, c, d, e].length ≤ sizeLine) = True := eq_true (sz5 (show 5 ≤ _ by omega))
theorem lm_0 {α β : Type} {b : β} : (([] : List α).length + 1 = [b].length) = True := eq_true rfl
theorem lm_1 {α β : Type} {a : α} {b b' : β} : ([a].length + 1 = [b, b'].length) = True := eq_true rfl
theorem lm_2 {α β : Type} {a a' : α} {b b' b2 : β} : ([a, a'].length + 1 = [b, b', b2].length) = True := eq_true rfl
theorem ln_0 {α β : Type} : (([] : List α).length = ([] : List β).length) = True := eq_true rfl
theorem ln_1 {α β : Type} {a : α} {b : β} : ([a].length = [b].length) = True := eq_true rfl
theorem ln_2 {α β : Type} {a a' : α} {b b' : β} : ([a, a'].length = [b, b'].length) = True := eq_true rfl
theorem ln_3 {α β : Type} {a a' a2 : α} {b b' b2 : β} : ([a, a', a2].length = [b, b', b2].length) = True := eq_true rfl
theorem icE' (a b : Nat) : ((a : Int) = (b : Int)) = (a = b) := propext ⟨fun h => Int.ofNat.inj h, fun h => h ▸ rfl⟩
theorem icast (a b : Nat) : (a : Int) + (b : Int) = ((a + b : Nat) : Int) := rfl
theorem icast1 (a : Nat) : (a : Int) + 1 = ((a + 1 : Nat) : Int) := rfl
theorem icast2 (a : Nat) : (a : Int) + 2 = ((a + 2 : Nat) : Int) := rfl
theorem icast3 (a : Nat) : (a : Int) + 3 = ((a + 3 : Nat) : Int) := rfl
theorem icE12 (a : Nat) : ((a : Int) = 12) = (a = 12) := icE' a 12
theorem icE200 (a : Nat) : ((a : Int) = 200) = (a = 200) := icE' a 200
theorem icS1 (a : Nat) : ((a + 1 : Nat) : Int) - 1 = (a : Int) := by omega
theorem icastL (a b : Nat) : ((a : Int) < (b : Int)) = (a < b) := propext Int.ofNat_lt
theorem icastE (a b : Nat) : ((a : Int) = (b : Int)) = (a = b) := propext ⟨fun h => Int.ofNat.inj h, fun h => h ▸ rfl⟩
theorem icastZ (a : Nat) : ((a : Int) = 0) = (a = 0) := icastE a 0
theorem ff (p q : Prop) : (if false = true then p else q) = q := if_neg Bool.false_ne_true
theorem tt' (p q : Prop) : (if true = true then p else q) = p := if_pos rfl
theorem dt {p : Prop} [Decidable p] (h : p) : decide p = true := decide_eq_true h
theorem df {p : Prop} [Decidable p] (h : ¬ p) : decide p = false := decide_eq_false h
/-- a cut between statements -/
theorem seq_cut {t u : TDS} {D : DEnds} {ρ : Rho} {S : Store} (I : Rho → Store → Prop) (h1 : ∀ Rest : Rho → Store → Prop, (∀ ρ S, I ρ S → Rest ρ S) → t { D with nx := Rest } ρ S) (h2 : ∀ ρ S, I ρ S → u D ρ S) : tdSeq t u D ρ S := h1 _ h2
end DL
namespace DL
open PySem PySem.Spec L2
section
variable {X : Cx} {F0 : Ent} {a b e o i : Expr} {ta tb t to ti te : TD} {pos apos cpos : Pos} {x : Str} {p : Pos}
def tdPop (to : TD) : TD := fun ρ S Q => to ρ S fun x S1 => ∃ a ds d, x = .ref a ∧ S1 a = some (.lst ds) ∧ ds[ds.length - 1]? = some d ∧ Q d (sup S1 a (.lst ds.dropLast))
theorem RelDs.dropLast {K : PySem.W.Frag} {F : Hp} : ∀ {ds : List D} {vs : List V}, RelDs K F ds vs → RelDs K F ds.dropLast vs.dropLast
  | [], vs, h => by
    obtain rfl : vs = [] := by unfold RelDs at h; exact h
    exact .nil
  | [d], vs, h => by
    obtain ⟨v, rfl, _⟩ := rds1 h
    exact .nil
  | d :: d2 :: ds, vs, h => by
    unfold RelDs at h
    obtain ⟨v, r, rfl, h1, h2⟩ := h
    have h3 := RelDs.dropLast h2
    unfold RelDs at h2
    obtain ⟨v2, r2, rfl, h4, h5⟩ := h2
    exact .cons h1 h3
theorem de_pop (ho : DE X F0 o to) (hbase : attributeBase o "pop" X.env (eval o X.env) = eval o X.env := by rfl) (hline : (apos.endLine == cpos.line) = true := by rfl) :
    DE X F0 (.Call (.Attribute o "pop" apos) [] [] cpos) (tdPop to) :=
  PE.weak (pe_bm0 PySem.F.plainAttrs_list PySem.F.slot_list_pop PySem.F.type_list_pop mt_pop ho hbase hline) fun σ H Q ⟨F, S, ρ, Q', at0, h, p⟩ => by
    refine EL.go at0 h fun v H1 F1 S1 d x1 a1 r1 ⟨b, ds, y, e1, e2, e3, q⟩ => ?_
    subst e1
    obtain ⟨vs, h1, h2⟩ := a1.sr.lst e2
    obtain ⟨w, k1, k2⟩ := h2.get e3
    rw [r1.ref_e]
    refine ⟨.inl ⟨rfl, vs, .of h1⟩, b, vs, w, rfl, rfl, h1, by rw [h2.length]; exact k1, ?_⟩
    exact p.of (x1.trans (a1.sr.ext_write e2)) (a1.sr.write (o := .lst _) e2 ⟨_, rfl, RelDs.dropLast h2⟩) k2 q
theorem valD_no {K : PySem.W.Frag} {F : Hp} : ∀ {kvs : List (DK × D)} {ws : List (Key × V)} {k : DK}, RelF K F (kmap kvs) ws → valD kvs k = none → valV ws (kk k) = none
  | [], ws, k, h, e => by
    obtain rfl : ws = [] := h
    rfl
  | (k', d) :: r, ws, k, h, e => by
    obtain ⟨v, q, rfl, h1, h2⟩ := h
    unfold valD at e
    by_cases hk : k' = k
    · rw [if_pos hk] at e; cases e
    · rw [if_neg hk] at e
      rw [valV_neg (fun z => hk (kk_inj z))]
      exact valD_no h2 e
def tdGet2 (to ti te : TD) : TD := fun ρ S Q => to ρ S fun x S1 => ∃ a kvs, x = .ref a ∧ S1 a = some (.dic kvs) ∧ ti ρ S1 fun y S2 => te ρ S2 fun z S3 => ∃ kvs' k, S3 a = some (.dic kvs') ∧ y = kD k ∧ Q ((valD kvs' k).getD z) S3
theorem de_get2 (hu : X.A.units + 1 < cLine) (ho : DE X F0 o to) (hi : DE X F0 i ti) (he : DE X F0 e te)
    (m1 : attributeBase o "get" X.env (eval o X.env) = eval o X.env := by rfl)
    (m2 : ((backTo cpos (starEach [i, e] X.env)).all (fun x => !x.1) && (backToKw cpos (keywordEach [] X.env)).all (fun x => x.1.isSome)
      && decide (([i, e] : List Expr).length + ([] : List Keyword).length + (if ([] : List Keyword).isEmpty then 0 else 1) < 30)) = true := by rfl)
    (m3 : (apos.endLine == cpos.line) = true := by rfl) (m4 : backTo cpos (starEach [i, e] X.env) = [(false, eval i X.env), (false, eval e X.env)] := by rfl) :
    DE X F0 (.Call (.Attribute o "get" apos) [i, e] [] cpos) (tdGet2 to ti te) :=
  PE.weak (pe_dget2 hu ho hi he ⟨m1, m2, m3, m4⟩) fun σ H Q ⟨F, S, ρ, Q', at0, h, p⟩ => EL.go at0 h fun v1 H1 F1 S1 d1 x1 a1 r1 ⟨b, kvs0, e1, e2, q1⟩ => by
    subst e1
    obtain ⟨ws0, h01, h02⟩ := a1.sr.dic e2
    refine ⟨b, r1.ref_e, .inl ⟨_, .inl h01⟩, EL.go a1 q1 fun v2 H2 F2 S2 d2 x2 a2 r2 q2 => EL.go a2 q2 fun v3 H3 F3 S3 d3 x3 a3 r3 ⟨kvs, k, e3, e4, q⟩ => ?_⟩
    subst e4
    obtain ⟨ws, h1, h2⟩ := a3.sr.dic e3
    refine ⟨valV ws (kk k), ?_, ?_⟩
    · rw [kD_rel r2]
      exact DGet.k h1
    · cases z : valD kvs k with
      | none =>
        rw [z] at q
        rw [valD_no h2 z]
        exact p.of ((x1.trans x2).trans x3) a3.sr r3 q
      | some d =>
        rw [z] at q
        obtain ⟨w, h3, h4⟩ := valD_rel h2 z
        rw [h3]
        exact p.of ((x1.trans x2).trans x3) a3.sr h4 q
/-- a whole number or a text as a value -/
def scV : D → Option V
  | .int i => some (.int i)
  | .str x => some (.str (tS x))
  | _ => none
theorem scV_rel {K : PySem.W.Frag} {F : Hp} {d : D} {v : V} (h : scV d = some v) : RelD K F d v := by
  cases d with
  | int i => cases h; exact .int_i _
  | str x => cases h; exact .str_i _
  | _ => cases h
def TbV (K : PySem.W.Frag) (a : Addr) (x : Tx) : Option D → Prop
  | none => PySem.W.nsIn K a (tS x) = some none
  | some d => ∃ u v, PySem.W.nsIn K a (tS x) = some (some u) ∧ scV d = some v ∧ RelV v u
/-- the dict at a, as far as kvs tells it -/
structure Tb (K : PySem.W.Frag) (w : World) (a : Addr) (kvs : List (Tx × Option D)) : Prop where
  kd : ∃ es n, KDict K w a es n
  val : ∀ x o, kvs.lookup x = some o → TbV K a x o
def tdKGet (kvs : List (Tx × Option D)) (ti : TD) : TD := fun ρ S Q => ti ρ S fun y S1 => ∃ x d, y = .str x ∧ kvs.lookup x = some (some d) ∧ Q d S1
def tdKGet2 (kvs : List (Tx × Option D)) (ti te : TD) : TD := fun ρ S Q => ti ρ S fun y S1 => te ρ S1 fun z S2 => ∃ x o, y = .str x ∧ kvs.lookup x = some o ∧ Q (o.getD z) S2
theorem de_kget {kvs : List (Tx × Option D)} {ad : Addr} (T : Tb X.K X.w ad kvs) (hg : Gl X x) (hm : X.mg x = some (.ref ad)) (hi : DE X F0 i ti) (hs : NoSl i := by exact fun _ _ => rfl) (hdb : (x == ("__debug__" : Str)) = false := by decide) :
    DE X F0 (.Subscript (.Name x p) i pos) (tdKGet kvs ti) := by
  obtain ⟨es, n, D⟩ := T.kd
  refine ⟨fun pins s σ H Q I h => ?_⟩
  refine subD_of PySem.F.slot_dict_getitem.lookup hs (ld_glob I hg hm (thn (hi.run pins s σ H (fun v H1 => ∃ u0 v0 z, v = .str z ∧ PySem.W.nsIn X.K ad z = some (some u0) ∧ RelV v0 u0 ∧ Q v0 H1) I ?_) fun iv s2 ⟨y, H2, I2, ry, u0, v0, z, ey, hn, hr, q⟩ => ?_) hdb)
  · obtain ⟨F, S, ρ, Q', at0, h, pp⟩ := h
    refine EL.go at0 h fun v H1 F1 S1 d x1 a1 r1 ⟨y, d2, e1, e2, q⟩ => ?_
    subst e1
    obtain ⟨u, v0, e3, e4, e5⟩ := T.val _ _ e2
    exact ⟨u, v0, tS y, r1.str_e, e3, e5, pp.of x1 a1.sr (scV_rel e4) q⟩
  · subst ey
    obtain ⟨t, rfl⟩ := ry
    exact ⟨kd_type D I2, wpAny_getItem_of (PySem.strKind_is X.prog X.w z t) (PySem.W.mapOf_K (prog := X.prog) I2.kIn D.at_ D.lit) (PySem.W.find_K D.at_ hn) ⟨v0, H2, I2.tok _, hr, q⟩⟩
theorem de_kget2 {kvs : List (Tx × Option D)} {ad : Addr} (T : Tb X.K X.w ad kvs) (hg : Gl X x) (hm : X.mg x = some (.ref ad)) (hi : DE X F0 i ti) (he : DE X F0 e te) (hdb : (x == ("__debug__" : Str)) = false := by decide)
    (m1 : attributeBase (.Name x p) "get" X.env (eval (.Name x p) X.env) = eval (.Name x p) X.env := by rfl)
    (m2 : ((backTo cpos (starEach [i, e] X.env)).all (fun x => !x.1) && (backToKw cpos (keywordEach [] X.env)).all (fun x => x.1.isSome)
      && decide (([i, e] : List Expr).length + ([] : List Keyword).length + (if ([] : List Keyword).isEmpty then 0 else 1) < 30)) = true := by rfl)
    (m3 : (apos.endLine == cpos.line) = true := by rfl) (m4 : backTo cpos (starEach [i, e] X.env) = [(false, eval i X.env), (false, eval e X.env)] := by rfl) :
    DE X F0 (.Call (.Attribute (.Name x p) "get" apos) [i, e] [] cpos) (tdKGet2 kvs ti te) := by
  obtain ⟨es, n, D⟩ := T.kd
  refine ⟨fun pins s σ H Q I h => ?_⟩
  refine wpAny_Call_method m1 m2 m3 PySem.F.plainAttrs_dict PySem.F.slot_dict_get PySem.F.type_dict_get (ld_glob I hg hm ?_ hdb)
  refine ⟨kd_type D I, fun b e => by cases e; exact ⟨_, I.kIn _ _ D.at_, rfl⟩, ?_⟩
  rw [m4]
  obtain ⟨F, S, ρ, Q', at0, h, pp⟩ := h
  refine Calls.callWith_builtin rfl (Calls.evalArgs_plain (Calls.spliced_cons (thn (hi.run pins s σ H (fun v H1 => ∃ F1 S1 y, Ext F S H F1 S1 H1 ∧ At X.K F0 F1 S1 H1 ρ σ ∧ RelD X.K F1 y v ∧ te ρ S1 fun z S2 => ∃ x o, y = .str x ∧ kvs.lookup x = some o ∧ Q' (o.getD z) S2) I
    (EL.go at0 h fun v H1 F1 S1 d x1 a1 r1 q => ⟨F1, S1, d, x1, a1, r1, q⟩)) fun iv s1 ⟨y, H1, I1, ry, F1, S1, yd, x1, a1, r1, q1⟩ => Calls.spliced_cons (thn (he.run pins s1 σ H1 (fun v H2 => ∃ F2 S2 z, Ext F1 S1 H1 F2 S2 H2 ∧ At X.K F0 F2 S2 H2 ρ σ ∧ RelD X.K F2 z v ∧
      ∃ x o, yd = .str x ∧ kvs.lookup x = some o ∧ Q' (o.getD z) S2) I1 (EL.go a1 q1 fun v H2 F2 S2 d x2 a2 r2 q => ⟨F2, S2, d, x2, a2, r2, q⟩)) fun fv s2 ⟨z, H2, I2, rz, F2, S2, zd, x2, a2, r2, tx0, o, e1, e2, q2⟩ => Calls.spliced_nil ?_))))
  subst e1
  obtain rfl := r1.str_e
  obtain ⟨t, rfl⟩ := ry
  refine call_meetsIn PySem.F.slot_dict_get (kd_type D I2) PySem.F.entry_dict_get (PySem.F.args_dict_get_3 _ _ _) (meets_dict_get_default (strKind X.prog X.w) ad (k := tS tx0) (PySem.strKind_is X.prog X.w (tS tx0) t) D.low fv) ⟨_, PySem.W.mapOf_K (prog := X.prog) I2.kIn D.at_ D.lit, ?_⟩
  have hv := T.val _ _ e2
  cases o with
  | none =>
    have hv : PySem.W.nsIn X.K ad (tS tx0) = some none := hv
    show EP X pins σ Q ((findBy Value.isStrOf es (tS tx0)).getD fv) _
    rw [PySem.W.find_K D.at_ hv]
    exact ⟨z, H2, I2.tok _, rz, pp.of (x1.trans x2) a2.sr r2 q2⟩
  | some d =>
    obtain ⟨u, v0, e3, e4, e5⟩ := hv
    show EP X pins σ Q ((findBy Value.isStrOf es (tS tx0)).getD fv) _
    rw [PySem.W.find_K D.at_ e3]
    exact ⟨v0, H2, I2.tok _, e5, pp.of (x1.trans x2) a2.sr (scV_rel e4) q2⟩
end
end DL
namespace DL
open PySem PySem.Spec L2
section
variable {X : Cx} {x : Str} {C : Addr} {body suite : List Stmt} {b₀ : Stmt} {np pos pos' : Pos} {tb : XD → TDS} {ts : TDS} {k : Nat} {F0 : Ent}
def tdTryO (C : Addr) (n : Nat) (tb : XD → TDS) (ts : TDS) : TDS := fun D ρ S => tb (fun x S' => x.C = C ∧ ts D (List.replicate n none) S') D ρ S
theorem ds_tryO (ln : Nat) (hln2 : X.N.length = ln) (hs : X.stack = X.env :: X.outer) (hf : X.env.frame = some X.env.locals) (hr : Rm k X.A) (hcalm : X.calm = true) (hc : Names X x (.ref C)) (hx : PySem.W.exmOne X.K (.ref C) (.ref C) = some true)
    (hb : ∀ (F1 : Ent) (pn : List (Addr × Obj)) (xe : Value → Shared → Prop) (E' : XD), PassesOwn (model X.prog X.w) X.A X.env xe → BC (X.tr pn xe) F1 k E' → DSs (X.tr pn xe) F1 body (tb E'))
    (hsu : ∀ (F1 : Ent) (a : Addr) (oe : Obj) (pn : List (Addr × Obj)), DSs (X.suite a ((a, oe) :: pn)) F1 (b₀ :: suite) ts) :
    DS X F0 (.Try body [.ExceptHandler (some (.Name x np)) none (b₀ :: suite) pos'] [] [] pos) (tdTryO C ln tb ts) := by
  subst hln2
  refine PS.weak (ps_try_only (c := .ref C) (Wout := fun _ _ _ _ => False) (ts := fun a cls d D σ H => ∃ F1, SL X.K F1 ts D σ H)
    (tb := fun W D σ H => ∃ F1 E', (∀ F' S' H' x cls od (σ : L2.St), σ.length = X.N.length → Ext F1.F F1.S F1.H F' S' H' → SR X.K F' S' H' → ExnRel X.K F' x cls od H' → E' x S' → W cls od σ H') ∧ SL X.K F1 (tb E') D σ H)
    hs hf hc (fun u s' ⟨a, B, sI, pins, σ, H, cls, d, e, I, nb, up, sky, na, os, ag, w⟩ => w.elim) (fun W pn xe tk po => ?_) (fun a oe cls d pn hz hv => ?_)) fun D σ H ⟨F, S, ρ, D', a, h, p⟩ => ?_
  · exact ⟨fun pins s σ H D I ⟨F1, E', hE, h⟩ => (hb F1 pn xe E' po ⟨hr, hcalm, W, tk, hE⟩).run pins s σ H D I h⟩
  · exact ⟨fun pins s σ H D I ⟨F1, h⟩ => (hsu F1 a oe pn).run pins s σ H D I h⟩
  · refine ⟨⟨F, S, H⟩, _, fun F' S' H' y cls od σ' hl z sr er q => ?_, F, S, ρ, D', ⟨Ext.refl _ _ _, a.sr, a.env⟩, h, p⟩
    obtain ⟨q1, q3⟩ := q
    obtain ⟨e1, e2⟩ := er
    rw [q1] at e1; subst e1
    refine ⟨true, hx, fun _ a _ => ⟨⟨F', S', H'⟩, F', S', _, D', ⟨Ext.refl _ _ _, sr, by simp [hl], fun j d q => ?_⟩, q3, p.ext z⟩, fun z => by cases z⟩
    rw [List.getElem?_replicate] at q
    split at q <;> cases q
end
def setD : Rho → List Nat → List D → Rho
  | ρ, v :: vs, d :: ds => setD (ρ.set v (some d)) vs ds
  | ρ, _, _ => ρ
def setV : L2.St → List Nat → List V → L2.St
  | σ, v :: vs, d :: ds => setV (σ.set v (some d)) vs ds
  | σ, _, _ => σ
def gNames : List Nat → TGs
  | [] => gNil
  | v :: vs => gCons (gName v) (gNames vs)
theorem gNames_go : ∀ {vs : List Nat} {xs : List V} {σ : L2.St} {H : Hp} {Q : L2.St → Hp → Prop}, xs.length = vs.length → Q (setV σ vs xs) H → gNames vs xs σ H Q
  | [], [], _, _, _, _, q => ⟨rfl, q⟩
  | v :: vs, x :: xs, σ, H, Q, h, q => ⟨x, xs, rfl, gNames_go (vs := vs) (xs := xs) (σ := σ.set v (some x)) (by simpa using h) q⟩
theorem wipe_set {σ : L2.St} {v : Nat} {o : Option V} : ∀ {vs : List Nat}, v ∈ vs → wipe (σ.set v o) vs = wipe σ vs
  | u :: vs, h => by
    show (wipe (σ.set v o) vs).set u none = (wipe σ vs).set u none
    by_cases e : v ∈ vs
    · rw [wipe_set e]
    · have e2 : v = u := by
        rcases List.mem_cons.mp h with z | z
        · exact z
        · exact absurd z e
      subst e2
      have key : ∀ ws : List Nat, ¬ v ∈ ws → wipe (σ.set v o) ws = (wipe σ ws).set v o := by
        intro ws
        induction ws with
        | nil => intro _; rfl
        | cons w ws ih =>
          intro hw
          have h1 : ¬ v = w := fun z => hw (by rw [z]; exact List.mem_cons_self)
          have h2 : ¬ v ∈ ws := fun z => hw (List.mem_cons_of_mem _ z)
          show (wipe (σ.set v o) ws).set w none = ((wipe σ ws).set w none).set v o
          rw [ih h2, List.set_comm _ _ h1]
      rw [key vs e, List.set_set]
theorem wipe_setV : ∀ {us : List Nat} {xs : List V} {σ : L2.St} {vs : List Nat}, (∀ u ∈ us, u ∈ vs) → wipe (setV σ us xs) vs = wipe σ vs
  | [], _, _, _, _ => rfl
  | _ :: _, [], _, _, _ => rfl
  | u :: us, x :: xs, σ, vs, h => by
    show wipe (setV (σ.set u (some x)) us xs) vs = _
    rw [wipe_setV fun w hw => h w (List.mem_cons_of_mem _ hw), wipe_set (h u List.mem_cons_self)]
theorem wipe_wipe (σ : L2.St) (vs : List Nat) : wipe (wipe σ vs) vs = wipe σ vs := by
  have key : ∀ (ws : List Nat), (∀ w ∈ ws, w ∈ vs) → wipe (wipe σ ws) vs = wipe σ vs := by
    intro ws
    induction ws with
    | nil => intro _; rfl
    | cons w ws ih =>
      intro h
      show wipe ((wipe σ ws).set w none) vs = _
      rw [wipe_set (h w List.mem_cons_self), ih fun u hu => h u (List.mem_cons_of_mem _ hu)]
  exact key vs fun w h => h
/-- the names' old values are not to be seen -/
def unsetD : Rho → List Nat → Rho
  | ρ, [] => ρ
  | ρ, v :: vs => (unsetD ρ vs).set v none
theorem RelE.wipe {K : PySem.W.Frag} {F : Hp} {ρ : Rho} {σ : L2.St} (h : RelE K F ρ σ) : ∀ vs : List Nat, RelE K F (unsetD ρ vs) (wipe σ vs)
  | [] => h
  | v :: vs => (RelE.wipe h vs).unset v none
theorem RelE.setD {K : PySem.W.Frag} {F : Hp} : ∀ {vs : List Nat} {ds : List D} {xs : List V} {ρ : Rho} {σ : L2.St}, RelE K F ρ σ → RelDs K F ds xs → RelE K F (setD ρ vs ds) (setV σ vs xs)
  | [], _, _, _, _, h, _ => by
    unfold DL.setD setV
    exact h
  | v :: vs, [], xs, _, _, h, r => by
    obtain rfl : xs = [] := by unfold RelDs at r; exact r
    exact h
  | v :: vs, d :: ds, xs, ρ, σ, h, r => by
    unfold RelDs at r
    obtain ⟨y, q, rfl, r1, r2⟩ := r
    exact RelE.setD (vs := vs) (h.set r1 v) r2
def lcT (vs : List Nat) (tt : TDT) (te : TD) (ρ : Rho) : List D → List D → Store → (List D → Store → Prop) → Prop
  | [], acc, S, Q => Q acc S
  | d :: ds, acc, S, Q => ∃ xs, d = .tup xs ∧ xs.length = vs.length ∧ tt (setD (unsetD ρ vs) vs xs) S fun b S1 => if b = true then te (setD (unsetD ρ vs) vs xs) S1 fun y S2 => acc.length < sizeLine ∧ lcT vs tt te ρ ds (acc ++ [y]) S2 Q else lcT vs tt te ρ ds acc S1 Q
def tdLcT (ti : TDI) (vs : List Nat) (tt : TDT) (te : TD) : TD := fun ρ S Q => ti ρ S fun ds S1 => lcT vs tt te ρ ds [] S1 fun ys S2 => Q (.lst ys) S2
theorem lcT_go {F0 : Ent} {ti : TDI} {vs : List Nat} {tt : TDT} {te : TD} {K : PySem.W.Frag} {σ : L2.St} {H : Hp} {Q : VK} (h : EL K F0 (tdLcT ti vs tt te) σ H Q) :
    tLc (IL K F0 ti) (gTup K vs.length (gNames vs)) (TL K F0 tt) (EL K F0 te) vs σ H Q := by
  obtain ⟨F, S, ρ, Q', a, h, p⟩ := h
  refine IL.go a h fun J H1 F1 S1 ds x1 a1 it q1 D hD => ?_
  refine ⟨fun i m H => m = ds.length - i ∧ i ≤ ds.length ∧ ∃ F S acc us, Ext F1 S1 (upd H1 D (.lst us)) F S H ∧ SR K F S H ∧ RelDs K F acc us ∧ lcT vs tt te ρ (ds.drop i) acc S fun ys S2 => Q' (.lst ys) S2,
    ⟨ds.length, by omega, Nat.zero_le _, F1, S1, [], [], Ext.refl _ _ _, a1.sr.laid hD, .nil, q1⟩, ?_⟩
  rintro i m H2 ⟨rfl, hi, F2, S2, acc, us, x2, sr2, racc, q2⟩
  have sm : Same F1 H2 := x2.same.trans sr2.fro
  obtain ⟨nF, nS, hH⟩ := x2.laid_none a1.sr hD
  by_cases hlt : i < ds.length
  · refine .inr ⟨it.go i H2 sm hlt, fun H => ∃ F S acc us, Ext F1 S1 (upd H1 D (.lst us)) F S H ∧ SR K F S H ∧ RelDs K F acc us ∧ lcT vs tt te ρ (ds.drop (i + 1)) acc S fun ys S2 => Q' (.lst ys) S2, fun H' n => ⟨ds.length - (i + 1), by omega, rfl, hlt, n⟩, fun x H' y => ?_⟩
    obtain ⟨F3, d, x3, sr3, hd, rd⟩ := it.yld i x H2 H' F2 S2 x2.same sr2 y hlt
    have e : ds.drop i = d :: ds.drop (i + 1) := by
      rw [List.drop_eq_getElem_cons hlt]
      congr 1
      rw [List.getElem?_eq_getElem hlt] at hd
      exact Option.some.inj hd
    rw [e] at q2
    obtain ⟨xs, e2, e3, q2⟩ := q2
    subst e2
    have x13 : Ext F1 S1 (upd H1 D (.lst us)) F3 S2 H' := x2.trans x3
    obtain ⟨b, ws, rfl, t1, t2⟩ := rd.tup_e
    refine ⟨b, ws, rfl, seqT sr3.fro t1, by rw [t2.length]; exact e3, gNames_go (by rw [t2.length]; exact e3) ?_⟩
    have a3 : At K F0 F3 S2 H' (setD (unsetD ρ vs) vs xs) (setV (wipe σ vs) vs ws) :=
      ⟨a1.f0.trans ((Ext.laid hD).trans x13), sr3, ((a1.env.mono x13.same).wipe vs).setD t2⟩
    refine ⟨?_, ?_⟩
    · rw [wipe_setV fun _ h => h, wipe_wipe]
    · refine TL.go a3 q2 fun b H4 F4 S4 x4 a4 q4 => ?_
      cases b with
      | false => exact iteF ⟨F4, S4, acc, us, x13.trans x4, a4.sr, RelDs.mono x4.same _ _ (RelDs.mono x3.same _ _ racc), q4⟩
      | true =>
        refine iteT (EL.go a4 q4 fun w H5 F5 S5 yd x5 a5 r5 ⟨hl, q5⟩ => ?_)
        have x15 := (x13.trans x4).trans x5
        obtain ⟨nF5, nS5, hH5⟩ := x15.laid_none a1.sr hD
        have racc5 := RelDs.mono x5.same _ _ (RelDs.mono x4.same _ _ (RelDs.mono x3.same _ _ racc))
        refine ⟨us, hH5, by rw [racc5.length]; exact hl, ?_⟩
        exact ⟨F5, S5, acc ++ [yd], us ++ [w], Ext.reset (K := K) x15, a5.sr.re nF5 nS5, racc5.append (.cons r5 .nil), q5⟩
  · refine .inl ⟨it.stop i H2 sm (by omega), ?_⟩
    rw [List.drop_eq_nil_of_le (by omega)] at q2
    obtain ⟨k1, k2⟩ := sr2.adoptF (ho := .lst us) nF nS
    have k3 := x2.adoptF (ho := .lst us) hD nF
    rw [upd_id hH] at k1 k3
    exact p.of (x1.trans k3) k1 (RelD.lst_i upd_same (RelDs.mono k2 _ _ racc)) q2
section
variable {X : Cx} {F0 : Ent} {elt iter : Expr} {ifs : List Expr} {scope : Scope} {tg : Expr} {own : List (Str × Nat)} {pos : Pos} {ti : TDI} {tt : TDT} {te : TD}
theorem de_lcT (vs : List Nat) (hvs : own.map (·.2) = vs) (hc : X.calm = true) (hN : X.N.Nodup) (hi : DI X F0 tg iter ti) (ok : BlkOk X.N X.env.scope scope own)
    (hg : ∀ (s : Shared) (H : Hp) (C : Addr) (cl : List (Str × Addr)) (fp : List Addr), PG (X.blk s H scope (compEnvC scope cl C X.env) fp) tg (gTup X.K vs.length (gNames vs)))
    (ht : ∀ (s : Shared) (H : Hp) (C : Addr) (cl : List (Str × Addr)) (fp : List Addr), DTs (X.blk s H scope (compEnvC scope cl C X.env) fp) F0 ifs tt)
    (he : ∀ (s : Shared) (H : Hp) (C : Addr) (cl : List (Str × Addr)) (fp : List Addr), DE (X.blk s H scope (compEnvC scope cl C X.env) fp) F0 elt te) (hs : ∀ x, foldedSetIterable iter X.env x = pure x := by intro _; rfl) :
    DE X F0 (.ListComp elt [⟨tg, iter, ifs, 0⟩] scope pos) (tdLcT ti vs tt te) := by
  subst hvs
  exact PE.weak (pe_lc (own := own) (tt := TL X.K F0 tt) (te := EL X.K F0 te) hc hN hi ok hg ht he hs) fun σ H Q h => lcT_go h
theorem Iters.zip {K : PySem.W.Frag} {F : Hp} {a b : Addr} {xs ys : List V} {ds es : List D} (h1 : ∀ H, Same F H → SqL K H a xs) (r1 : RelDs K F ds xs) (h2 : ∀ H, Same F H → SqL K H b ys) (r2 : RelDs K F es ys) :
    Iters K F (Itz K a b) (List.zipWith (fun x y => D.tup [x, y]) ds es) where
  go := fun i H sm hi => by
    rw [List.length_zipWith] at hi
    obtain ⟨v, k1, k2⟩ := r1.get (List.getElem?_eq_getElem (show i < ds.length by omega))
    obtain ⟨u, k3, k4⟩ := r2.get (List.getElem?_eq_getElem (show i < es.length by omega))
    exact ⟨xs, ys, v, u, h1 H sm, h2 H sm, k1, k3⟩
  stop := fun i H sm hi => by
    rw [List.length_zipWith] at hi
    exact ⟨xs, ys, h1 H sm, h2 H sm, by rw [r1.length, r2.length]; omega⟩
  yld := fun i x H H' F2 S sm sr y hi => by
    rw [List.length_zipWith] at hi
    obtain ⟨T, v, u, rfl, hT, rfl, q1, q2⟩ := y
    have k1 := q1 _ (h1 H (sm.trans sr.fro))
    have k2 := q2 _ (h2 H (sm.trans sr.fro))
    obtain ⟨d, e1, e2⟩ := r1.get' k1
    obtain ⟨e, e3, e4⟩ := r2.get' k2
    have nF := sr.fnone hT
    have nS := sr.snone hT
    have sm2 : Same F2 (upd F2 T (.tup [v, u])) := sr.same_frz hT
    refine ⟨upd F2 T (.tup [v, u]), .tup [d, e], sr.ext_frz hT, sr.frz hT, ?_, ?_⟩
    · rw [List.getElem?_zipWith, e1, e3]
    · exact .tup_i (.inl (.inl upd_same)) (.cons (RelD.mono sm2 _ _ (RelD.mono sm _ _ e2)) (.cons (RelD.mono sm2 _ _ (RelD.mono sm _ _ e4)) .nil))
def tdiZ (t : TDs) : TDI := fun ρ S Q => t ρ S fun ds S1 => match ds with
  | [.lst xs, .lst ys] => Q (List.zipWith (fun x y => D.tup [x, y]) xs ys) S1
  | _ => False
theorem di_zip {e e2 : Expr} {p tpos : Pos} {elts : List Expr} {kk : Nat} {tr : TDs} (hg : Gl X "zip") (hm : X.mg "zip" = none) (ha : DA X F0 [e, e2] tr)
    (hs : starEach [e, e2] X.env = (false, eval e X.env) :: starEach [e2] X.env := by rfl) (hpl : (backTo pos (starEach [e2] X.env)).any (·.1) = false := by rfl) :
    DI X F0 (.Tuple elts kk tpos) (.Call (.Name "zip" p) [e, e2] [] pos) (tdiZ tr) :=
  PI.weak (pi_zip hg hm ha hs hpl) fun σ H R ⟨F, S, ρ, Q', a, h, pp⟩ => AL.go a h fun vs H1 F1 S1 ds x1 a1 r1 q1 => by
    split at q1
    · obtain ⟨v, w, rfl, rv, rw'⟩ := rds2 r1
      obtain ⟨b, us, rfl, h1, h2⟩ := rv.lst_e
      obtain ⟨c, ws, rfl, h3, h4⟩ := rw'.lst_e
      exact ⟨b, c, us, ws, rfl, .of (a1.sr.fro _ _ h1), .of (a1.sr.fro _ _ h3), pp _ _ _ _ _ x1 a1.sr (.zip (fun H sm => .of (sm _ _ h1)) h2 (fun H sm => .of (sm _ _ h3)) h4) q1⟩
    · exact q1.elim
end
end DL
namespace DL
open PySem PySem.Spec L2
section
variable {X : Cx}
def gMax2 : DCall := fun S ds Q => match ds with
  | [.int i, .int j] => Q (.int (max i j)) S
  | _ => False
theorem oc_max2 (hc : X.calm = true) : CallR X (.builtin "max") (CL X.K gMax2) := CallR.weak (call_max2 hc) fun xs H Q ⟨F, S, ds, Q', sr, r, g, p⟩ => by
  unfold gMax2 at g
  split at g
  · rename_i i j
    obtain ⟨v, w, rfl, rv, rw'⟩ := rds2 r
    obtain rfl := rv.int_e
    obtain rfl := rw'.int_e
    refine ⟨i, j, rfl, ?_⟩
    have e : (if j > i then j else i) = max i j := by omega
    rw [e]
    exact p.of (Ext.refl _ _ _) sr (.int_i _) g
  · exact g.elim
theorem gIn_int {f : Bool → Bool} {S : Store} {x : Int} {ts : List Int} {Q : D → Store → Prop} : gIn f S (.int x) (.lst (ts.map D.int)) Q = Q (.bl (f (decide (x ∈ ts)))) S := by
  have h1 : ∀ l : List Int, (l.map D.int).all flatD = true := fun l => by
    induction l with
    | nil => rfl
    | cons y l ih => rw [List.map_cons, List.all_cons, ih]; rfl
  have h2 : ∀ l : List Int, ((l.map D.int).any fun y => eqF y (.int x)) = decide (x ∈ l) := fun l => by
    induction l with
    | nil => rfl
    | cons y l ih =>
      rw [List.map_cons, List.any_cons, ih]
      show (decide (y = x) || _) = _
      by_cases h : y = x
      · simp [h]
      · have h' : ¬ x = y := fun z => h z.symm
        simp [h, h']
  show (flatD (.int x) = true ∧ _ ∧ _) = _
  rw [h1, h2]; simp [flatD]
end
end DL
namespace K63
open PySem PySem.Spec L2 DL
def top (i : Nat) : Stmt := PySem.Challenge.pw_chiplore_k63_written_definitions_read_ba.main.body.getD i (.Pass ⟨0, 0, 0, 0⟩)
abbrev st_line_of : Stmt := top 3
abbrev N_line_of : List Str := ["claim"]
theorem sc_line_of : FnScope N_line_of ["claim"] (defScope st_line_of) := ⟨rfl, rfl, rfl, by decide +kernel, rfl, by decide +kernel, by decide +kernel⟩
theorem nd_line_of : N_line_of.Nodup := sc_line_of.nd
abbrev st_write_within : Stmt := top 4
abbrev N_write_within : List Str := ["claim", "line", "text"]
theorem sc_write_within : FnScope N_write_within ["claim", "line"] (defScope st_write_within) := ⟨rfl, rfl, rfl, by decide +kernel, rfl, by decide +kernel, by decide +kernel⟩
theorem nd_write_within : N_write_within.Nodup := sc_write_within.nd
abbrev st_write_claim : Stmt := top 5
abbrev N_write_claim : List Str := ["claim", "form", "line", "left", "right"]
theorem sc_write_claim : FnScope N_write_claim ["claim"] (defScope st_write_claim) := ⟨rfl, rfl, rfl, by decide +kernel, rfl, by decide +kernel, by decide +kernel⟩
theorem nd_write_claim : N_write_claim.Nodup := sc_write_claim.nd
abbrev st_write_definition : Stmt := top 6
abbrev N_write_definition : List Str := ["tree"]
theorem sc_write_definition : FnScope N_write_definition ["tree"] (defScope st_write_definition) := ⟨rfl, rfl, rfl, by decide +kernel, rfl, by decide +kernel, by decide +kernel⟩
theorem nd_write_definition : N_write_definition.Nodup := sc_write_definition.nd
abbrev st_line_starts : Stmt := top 8
abbrev N_line_starts : List Str := ["text", "found", "position"]
theorem sc_line_starts : FnScope N_line_starts ["text"] (defScope st_line_starts) := ⟨rfl, rfl, rfl, by decide +kernel, rfl, by decide +kernel, by decide +kernel⟩
theorem nd_line_starts : N_line_starts.Nodup := sc_line_starts.nd
abbrev st_chunks : Stmt := top 9
abbrev N_chunks : List Str := ["text", "starts", "ends", "start", "end"]
theorem sc_chunks : FnScope N_chunks ["text"] (defScope st_chunks) := ⟨rfl, rfl, rfl, by decide +kernel, rfl, by decide +kernel, by decide +kernel⟩
theorem nd_chunks : N_chunks.Nodup := sc_chunks.nd
abbrev st_read_word : Stmt := top 19
abbrev N_read_word : List Str := ["chunk", "start", "end", "word"]
theorem sc_read_word : FnScope N_read_word ["chunk", "start"] (defScope st_read_word) := ⟨rfl, rfl, rfl, by decide +kernel, rfl, by decide +kernel, by decide +kernel⟩
theorem nd_read_word : N_read_word.Nodup := sc_read_word.nd
abbrev st_read_token : Stmt := top 20
abbrev N_read_token : List Str := ["chunk", "start", "sign"]
theorem sc_read_token : FnScope N_read_token ["chunk", "start"] (defScope st_read_token) := ⟨rfl, rfl, rfl, by decide +kernel, rfl, by decide +kernel, by decide +kernel⟩
theorem nd_read_token : N_read_token.Nodup := sc_read_token.nd
abbrev st_tokenize : Stmt := top 21
abbrev N_tokenize : List Str := ["chunk", "tokens", "start", "kind", "value", "end"]
theorem sc_tokenize : FnScope N_tokenize ["chunk"] (defScope st_tokenize) := ⟨rfl, rfl, rfl, by decide +kernel, rfl, by decide +kernel, by decide +kernel⟩
theorem nd_tokenize : N_tokenize.Nodup := sc_tokenize.nd
abbrev st_Cursor___init__ : Stmt := inClass (top 25) 0
abbrev N_Cursor___init__ : List Str := ["self", "chunk"]
theorem sc_Cursor___init__ : FnScope N_Cursor___init__ ["self", "chunk"] (defScope st_Cursor___init__) := ⟨rfl, rfl, rfl, by decide +kernel, rfl, by decide +kernel, by decide +kernel⟩
theorem nd_Cursor___init__ : N_Cursor___init__.Nodup := sc_Cursor___init__.nd
abbrev st_Cursor_position : Stmt := inClass (top 25) 1
abbrev N_Cursor_position : List Str := ["self"]
theorem sc_Cursor_position : FnScope N_Cursor_position ["self"] (defScope st_Cursor_position) := ⟨rfl, rfl, rfl, by decide +kernel, rfl, by decide +kernel, by decide +kernel⟩
theorem nd_Cursor_position : N_Cursor_position.Nodup := sc_Cursor_position.nd
abbrev st_Cursor_at_end : Stmt := inClass (top 25) 2
abbrev N_Cursor_at_end : List Str := ["self"]
theorem sc_Cursor_at_end : FnScope N_Cursor_at_end ["self"] (defScope st_Cursor_at_end) := ⟨rfl, rfl, rfl, by decide +kernel, rfl, by decide +kernel, by decide +kernel⟩
theorem nd_Cursor_at_end : N_Cursor_at_end.Nodup := sc_Cursor_at_end.nd
abbrev st_Cursor_refuse : Stmt := inClass (top 25) 3
abbrev N_Cursor_refuse : List Str := ["self"]
theorem sc_Cursor_refuse : FnScope N_Cursor_refuse ["self"] (defScope st_Cursor_refuse) := ⟨rfl, rfl, rfl, by decide +kernel, rfl, by decide +kernel, by decide +kernel⟩
theorem nd_Cursor_refuse : N_Cursor_refuse.Nodup := sc_Cursor_refuse.nd
abbrev st_Cursor_sees : Stmt := inClass (top 25) 4
abbrev N_Cursor_sees : List Str := ["self", "word"]
theorem sc_Cursor_sees : FnScope N_Cursor_sees ["self", "word"] (defScope st_Cursor_sees) := ⟨rfl, rfl, rfl, by decide +kernel, rfl, by decide +kernel, by decide +kernel⟩
theorem nd_Cursor_sees : N_Cursor_sees.Nodup := sc_Cursor_sees.nd
abbrev st_Cursor_sees_kind : Stmt := inClass (top 25) 5
abbrev N_Cursor_sees_kind : List Str := ["self", "kind"]
theorem sc_Cursor_sees_kind : FnScope N_Cursor_sees_kind ["self", "kind"] (defScope st_Cursor_sees_kind) := ⟨rfl, rfl, rfl, by decide +kernel, rfl, by decide +kernel, by decide +kernel⟩
theorem nd_Cursor_sees_kind : N_Cursor_sees_kind.Nodup := sc_Cursor_sees_kind.nd
abbrev st_Cursor_seen_of : Stmt := inClass (top 25) 6
abbrev N_Cursor_seen_of : List Str := ["self", "words", "word"]
theorem sc_Cursor_seen_of : FnScope N_Cursor_seen_of ["self", "words"] (defScope st_Cursor_seen_of) := ⟨rfl, rfl, rfl, by decide +kernel, rfl, by decide +kernel, by decide +kernel⟩
theorem nd_Cursor_seen_of : N_Cursor_seen_of.Nodup := sc_Cursor_seen_of.nd
abbrev st_Cursor_take : Stmt := inClass (top 25) 7
abbrev N_Cursor_take : List Str := ["self"]
theorem sc_Cursor_take : FnScope N_Cursor_take ["self"] (defScope st_Cursor_take) := ⟨rfl, rfl, rfl, by decide +kernel, rfl, by decide +kernel, by decide +kernel⟩
theorem nd_Cursor_take : N_Cursor_take.Nodup := sc_Cursor_take.nd
abbrev st_Cursor_take_kind : Stmt := inClass (top 25) 8
abbrev N_Cursor_take_kind : List Str := ["self", "kind"]
theorem sc_Cursor_take_kind : FnScope N_Cursor_take_kind ["self", "kind"] (defScope st_Cursor_take_kind) := ⟨rfl, rfl, rfl, by decide +kernel, rfl, by decide +kernel, by decide +kernel⟩
theorem nd_Cursor_take_kind : N_Cursor_take_kind.Nodup := sc_Cursor_take_kind.nd
abbrev st_Cursor_accept : Stmt := inClass (top 25) 9
abbrev N_Cursor_accept : List Str := ["self", "word"]
theorem sc_Cursor_accept : FnScope N_Cursor_accept ["self", "word"] (defScope st_Cursor_accept) := ⟨rfl, rfl, rfl, by decide +kernel, rfl, by decide +kernel, by decide +kernel⟩
theorem nd_Cursor_accept : N_Cursor_accept.Nodup := sc_Cursor_accept.nd
abbrev st_Cursor_expect : Stmt := inClass (top 25) 10
abbrev N_Cursor_expect : List Str := ["self", "word"]
theorem sc_Cursor_expect : FnScope N_Cursor_expect ["self", "word"] (defScope st_Cursor_expect) := ⟨rfl, rfl, rfl, by decide +kernel, rfl, by decide +kernel, by decide +kernel⟩
theorem nd_Cursor_expect : N_Cursor_expect.Nodup := sc_Cursor_expect.nd
abbrev st_Cursor_enter : Stmt := inClass (top 25) 11
abbrev N_Cursor_enter : List Str := ["self", "word"]
theorem sc_Cursor_enter : FnScope N_Cursor_enter ["self", "word"] (defScope st_Cursor_enter) := ⟨rfl, rfl, rfl, by decide +kernel, rfl, by decide +kernel, by decide +kernel⟩
theorem nd_Cursor_enter : N_Cursor_enter.Nodup := sc_Cursor_enter.nd
abbrev st_Cursor_close : Stmt := inClass (top 25) 12
abbrev N_Cursor_close : List Str := ["self", "word"]
theorem sc_Cursor_close : FnScope N_Cursor_close ["self", "word"] (defScope st_Cursor_close) := ⟨rfl, rfl, rfl, by decide +kernel, rfl, by decide +kernel, by decide +kernel⟩
theorem nd_Cursor_close : N_Cursor_close.Nodup := sc_Cursor_close.nd
abbrev st_Parser___init__ : Stmt := inClass (top 28) 0
abbrev N_Parser___init__ : List Str := ["self", "chunk"]
theorem sc_Parser___init__ : FnScope N_Parser___init__ ["self", "chunk"] (defScope st_Parser___init__) := ⟨rfl, rfl, rfl, by decide +kernel, rfl, by decide +kernel, by decide +kernel⟩
theorem nd_Parser___init__ : N_Parser___init__.Nodup := sc_Parser___init__.nd
abbrev st_Parser_definition : Stmt := inClass (top 28) 1
abbrev N_Parser_definition : List Str := ["self", "cursor", "sort", "name", "claim"]
theorem sc_Parser_definition : FnScope N_Parser_definition ["self"] (defScope st_Parser_definition) := ⟨rfl, rfl, rfl, by decide +kernel, rfl, by decide +kernel, by decide +kernel⟩
theorem nd_Parser_definition : N_Parser_definition.Nodup := sc_Parser_definition.nd
abbrev st_Parser_same : Stmt := inClass (top 28) 2
abbrev N_Parser_same : List Str := ["self", "claim"]
theorem sc_Parser_same : FnScope N_Parser_same ["self"] (defScope st_Parser_same) := ⟨rfl, rfl, rfl, by decide +kernel, rfl, by decide +kernel, by decide +kernel⟩
theorem nd_Parser_same : N_Parser_same.Nodup := sc_Parser_same.nd
abbrev st_Parser_given : Stmt := inClass (top 28) 3
abbrev N_Parser_given : List Str := ["self", "claim"]
theorem sc_Parser_given : FnScope N_Parser_given ["self"] (defScope st_Parser_given) := ⟨rfl, rfl, rfl, by decide +kernel, rfl, by decide +kernel, by decide +kernel⟩
theorem nd_Parser_given : N_Parser_given.Nodup := sc_Parser_given.nd
abbrev st_Parser_either : Stmt := inClass (top 28) 4
abbrev N_Parser_either : List Str := ["self", "claim"]
theorem sc_Parser_either : FnScope N_Parser_either ["self"] (defScope st_Parser_either) := ⟨rfl, rfl, rfl, by decide +kernel, rfl, by decide +kernel, by decide +kernel⟩
theorem nd_Parser_either : N_Parser_either.Nodup := sc_Parser_either.nd
abbrev st_Parser_both : Stmt := inClass (top 28) 5
abbrev N_Parser_both : List Str := ["self", "claim"]
theorem sc_Parser_both : FnScope N_Parser_both ["self"] (defScope st_Parser_both) := ⟨rfl, rfl, rfl, by decide +kernel, rfl, by decide +kernel, by decide +kernel⟩
theorem nd_Parser_both : N_Parser_both.Nodup := sc_Parser_both.nd
abbrev st_Parser_turned : Stmt := inClass (top 28) 6
abbrev N_Parser_turned : List Str := ["self", "count", "claim", "_"]
theorem sc_Parser_turned : FnScope N_Parser_turned ["self"] (defScope st_Parser_turned) := ⟨rfl, rfl, rfl, by decide +kernel, rfl, by decide +kernel, by decide +kernel⟩
theorem nd_Parser_turned : N_Parser_turned.Nodup := sc_Parser_turned.nd
abbrev st_Parser_part : Stmt := inClass (top 28) 7
abbrev N_Parser_part : List Str := ["self", "cursor", "claim"]
theorem sc_Parser_part : FnScope N_Parser_part ["self"] (defScope st_Parser_part) := ⟨rfl, rfl, rfl, by decide +kernel, rfl, by decide +kernel, by decide +kernel⟩
theorem nd_Parser_part : N_Parser_part.Nodup := sc_Parser_part.nd
abbrev st_depth_of : Stmt := top 29
abbrev N_depth_of : List Str := ["claim", "part"]
theorem sc_depth_of : FnScope N_depth_of ["claim"] (defScope st_depth_of) := ⟨rfl, rfl, rfl, by decide +kernel, rfl, by decide +kernel, by decide +kernel⟩
theorem nd_depth_of : N_depth_of.Nodup := sc_depth_of.nd
abbrev st_parse : Stmt := top 30
abbrev N_parse : List Str := ["chunk"]
theorem sc_parse : FnScope N_parse ["chunk"] (defScope st_parse) := ⟨rfl, rfl, rfl, by decide +kernel, rfl, by decide +kernel, by decide +kernel⟩
theorem nd_parse : N_parse.Nodup := sc_parse.nd
abbrev st__law_next : Stmt := top 32
abbrev N__law_next : List Str := ["state", "limit", "cell", "value"]
theorem sc__law_next : FnScope N__law_next ["state", "limit"] (defScope st__law_next) := ⟨rfl, rfl, rfl, by decide +kernel, rfl, by decide +kernel, by decide +kernel⟩
theorem nd__law_next : N__law_next.Nodup := sc__law_next.nd
abbrev st__law_same : Stmt := top 33
abbrev N__law_same : List Str := ["actual", "expected", "k"]
theorem sc__law_same : FnScope N__law_same ["actual", "expected"] (defScope st__law_same) := ⟨rfl, rfl, rfl, by decide +kernel, rfl, by decide +kernel, by decide +kernel⟩
theorem nd__law_same : N__law_same.Nodup := sc__law_same.nd
abbrev st__law_drawn : Stmt := top 34
abbrev N__law_drawn : List Str := ["state", "letters", "more", "k"]
theorem sc__law_drawn : FnScope N__law_drawn ["state"] (defScope st__law_drawn) := ⟨rfl, rfl, rfl, by decide +kernel, rfl, by decide +kernel, by decide +kernel⟩
theorem nd__law_drawn : N__law_drawn.Nodup := sc__law_drawn.nd
abbrev st__law_tree : Stmt := top 35
abbrev N__law_tree : List Str := ["state", "depth", "pick"]
theorem sc__law_tree : FnScope N__law_tree ["state", "depth"] (defScope st__law_tree) := ⟨rfl, rfl, rfl, by decide +kernel, rfl, by decide +kernel, by decide +kernel⟩
theorem nd__law_tree : N__law_tree.Nodup := sc__law_tree.nd
abbrev st__law_read : Stmt := top 36
abbrev N__law_read : List Str := ["chunk"]
theorem sc__law_read : FnScope N__law_read ["chunk"] (defScope st__law_read) := ⟨rfl, rfl, rfl, by decide +kernel, rfl, by decide +kernel, by decide +kernel⟩
theorem nd__law_read : N__law_read.Nodup := sc__law_read.nd
abbrev st__law_pairs : Stmt := top 37
abbrev N__law_pairs : List Str := ["tokens", "opened", "found", "k"]
theorem sc__law_pairs : FnScope N__law_pairs ["tokens"] (defScope st__law_pairs) := ⟨rfl, rfl, rfl, by decide +kernel, rfl, by decide +kernel, by decide +kernel⟩
theorem nd__law_pairs : N__law_pairs.Nodup := sc__law_pairs.nd
abbrev st__law_joined : Stmt := top 38
abbrev N__law_joined : List Str := ["tokens", "without", "blank", "k"]
theorem sc__law_joined : FnScope N__law_joined ["tokens", "without", "blank"] (defScope st__law_joined) := ⟨rfl, rfl, rfl, by decide +kernel, rfl, by decide +kernel, by decide +kernel⟩
theorem nd__law_joined : N__law_joined.Nodup := sc__law_joined.nd
abbrev st__law_tokens : Stmt := top 39
abbrev N__law_tokens : List Str := ["claim", "line", "form", "own", "found", "mark"]
theorem sc__law_tokens : FnScope N__law_tokens ["claim", "line"] (defScope st__law_tokens) := ⟨rfl, rfl, rfl, by decide +kernel, rfl, by decide +kernel, by decide +kernel⟩
theorem nd__law_tokens : N__law_tokens.Nodup := sc__law_tokens.nd
abbrev st__law_most_open : Stmt := top 40
abbrev N__law_most_open : List Str := ["tokens", "opened", "most", "token"]
theorem sc__law_most_open : FnScope N__law_most_open ["tokens"] (defScope st__law_most_open) := ⟨rfl, rfl, rfl, by decide +kernel, rfl, by decide +kernel, by decide +kernel⟩
theorem nd__law_most_open : N__law_most_open.Nodup := sc__law_most_open.nd
abbrev st_law : Stmt := top 41
abbrev N_law : List Str := ["script", "state", "k", "tree", "written", "tokens", "least", "kind", "value", "position", "own", "token", "first", "last"]
theorem sc_law : FnScope N_law ["script"] (defScope st_law) := ⟨rfl, rfl, rfl, by decide +kernel, rfl, by decide +kernel, by decide +kernel⟩
theorem nd_law : N_law.Nodup := sc_law.nd
theorem zs_KEYWORDS : [("note" : Str), ("ask" : Str), ("name" : Str), ("none" : Str)] = [tx "note", tx "ask", tx "name", tx "none"].map tS := by simp [ofString_tx]
theorem zs_LONG_SIGNS : [("<->" : Str), ("->" : Str)] = [tx "<->", tx "->"].map tS := by simp [ofString_tx]
theorem zs_SHORT_SIGNS : [("(" : Str), (")" : Str), ("&" : Str), ("|" : Str), ("~" : Str), ("=" : Str)] = [tx "(", tx ")", tx "&", tx "|", tx "~", tx "="].map tS := by simp [ofString_tx]
def kv_LINES : List (Tx × Option D) := [(tx "same", some (.int (1))), (tx "given", some (.int (2))), (tx "or", some (.int (3))), (tx "and", some (.int (4))), (tx "not", some (.int (5))), (tx "word", none), (tx "none", none)]
def kv_MARKS : List (Tx × Option D) := [(tx "same", some (.str (tx " <-> "))), (tx "given", some (.str (tx " -> "))), (tx "or", some (.str (tx " | "))), (tx "and", some (.str (tx " & ")))]
structure Zf (P : Program) (w : World) (K : PySem.W.Frag) (mg : Str → Option Value) (base : Heap) : Prop where
  f_len : mg "len" = none
  f_isinstance : mg "isinstance" = none
  f_max : mg "max" = none
  f_int : mg "int" = none
  f_list : mg "list" = none
  f_str : mg "str" = none
  f_range : mg "range" = none
  f_tuple : mg "tuple" = none
  f_bool : mg "bool" = none
  f_zip : mg "zip" = none
  g_line_of : mg "line_of" = some (.ref (He.ga K "line_of"))
  F_line_of : ∃ fd, Fun K "line_of" "line_of" st_line_of (He.ga K "line_of") fd ∧ Binds K fd ["claim"] []
  g_write_within : mg "write_within" = some (.ref (He.ga K "write_within"))
  F_write_within : ∃ fd, Fun K "write_within" "write_within" st_write_within (He.ga K "write_within") fd ∧ Binds K fd ["claim", "line"] []
  g_write_claim : mg "write_claim" = some (.ref (He.ga K "write_claim"))
  F_write_claim : ∃ fd, Fun K "write_claim" "write_claim" st_write_claim (He.ga K "write_claim") fd ∧ Binds K fd ["claim"] []
  g_write_definition : mg "write_definition" = some (.ref (He.ga K "write_definition"))
  F_write_definition : ∃ fd, Fun K "write_definition" "write_definition" st_write_definition (He.ga K "write_definition") fd ∧ Binds K fd ["tree"] []
  g_line_starts : mg "line_starts" = some (.ref (He.ga K "line_starts"))
  F_line_starts : ∃ fd, Fun K "line_starts" "line_starts" st_line_starts (He.ga K "line_starts") fd ∧ Binds K fd ["text"] []
  g_chunks : mg "chunks" = some (.ref (He.ga K "chunks"))
  F_chunks : ∃ fd, Fun K "chunks" "chunks" st_chunks (He.ga K "chunks") fd ∧ Binds K fd ["text"] []
  g_read_word : mg "read_word" = some (.ref (He.ga K "read_word"))
  F_read_word : ∃ fd, Fun K "read_word" "read_word" st_read_word (He.ga K "read_word") fd ∧ Binds K fd ["chunk", "start"] []
  g_read_token : mg "read_token" = some (.ref (He.ga K "read_token"))
  F_read_token : ∃ fd, Fun K "read_token" "read_token" st_read_token (He.ga K "read_token") fd ∧ Binds K fd ["chunk", "start"] []
  g_tokenize : mg "tokenize" = some (.ref (He.ga K "tokenize"))
  F_tokenize : ∃ fd, Fun K "tokenize" "tokenize" st_tokenize (He.ga K "tokenize") fd ∧ Binds K fd ["chunk"] []
  F_Cursor___init__ : ∃ fd, Fun K "__init__" "Cursor.__init__" st_Cursor___init__ (He.ma K (He.ga K "Cursor") "__init__") fd ∧ Binds K fd ["self", "chunk"] []
  F_Cursor_position : ∃ fd, Fun K "position" "Cursor.position" st_Cursor_position (He.ma K (He.ga K "Cursor") "position") fd ∧ Binds K fd ["self"] []
  F_Cursor_at_end : ∃ fd, Fun K "at_end" "Cursor.at_end" st_Cursor_at_end (He.ma K (He.ga K "Cursor") "at_end") fd ∧ Binds K fd ["self"] []
  F_Cursor_refuse : ∃ fd, Fun K "refuse" "Cursor.refuse" st_Cursor_refuse (He.ma K (He.ga K "Cursor") "refuse") fd ∧ Binds K fd ["self"] []
  F_Cursor_sees : ∃ fd, Fun K "sees" "Cursor.sees" st_Cursor_sees (He.ma K (He.ga K "Cursor") "sees") fd ∧ Binds K fd ["self", "word"] []
  F_Cursor_sees_kind : ∃ fd, Fun K "sees_kind" "Cursor.sees_kind" st_Cursor_sees_kind (He.ma K (He.ga K "Cursor") "sees_kind") fd ∧ Binds K fd ["self", "kind"] []
  F_Cursor_seen_of : ∃ fd, Fun K "seen_of" "Cursor.seen_of" st_Cursor_seen_of (He.ma K (He.ga K "Cursor") "seen_of") fd ∧ Binds K fd ["self", "words"] []
  F_Cursor_take : ∃ fd, Fun K "take" "Cursor.take" st_Cursor_take (He.ma K (He.ga K "Cursor") "take") fd ∧ Binds K fd ["self"] []
  F_Cursor_take_kind : ∃ fd, Fun K "take_kind" "Cursor.take_kind" st_Cursor_take_kind (He.ma K (He.ga K "Cursor") "take_kind") fd ∧ Binds K fd ["self", "kind"] []
  F_Cursor_accept : ∃ fd, Fun K "accept" "Cursor.accept" st_Cursor_accept (He.ma K (He.ga K "Cursor") "accept") fd ∧ Binds K fd ["self", "word"] []
  F_Cursor_expect : ∃ fd, Fun K "expect" "Cursor.expect" st_Cursor_expect (He.ma K (He.ga K "Cursor") "expect") fd ∧ Binds K fd ["self", "word"] []
  F_Cursor_enter : ∃ fd, Fun K "enter" "Cursor.enter" st_Cursor_enter (He.ma K (He.ga K "Cursor") "enter") fd ∧ Binds K fd ["self", "word"] []
  F_Cursor_close : ∃ fd, Fun K "close" "Cursor.close" st_Cursor_close (He.ma K (He.ga K "Cursor") "close") fd ∧ Binds K fd ["self", "word"] []
  F_Parser___init__ : ∃ fd, Fun K "__init__" "Parser.__init__" st_Parser___init__ (He.ma K (He.ga K "Parser") "__init__") fd ∧ Binds K fd ["self", "chunk"] []
  F_Parser_definition : ∃ fd, Fun K "definition" "Parser.definition" st_Parser_definition (He.ma K (He.ga K "Parser") "definition") fd ∧ Binds K fd ["self"] []
  F_Parser_same : ∃ fd, Fun K "same" "Parser.same" st_Parser_same (He.ma K (He.ga K "Parser") "same") fd ∧ Binds K fd ["self"] []
  F_Parser_given : ∃ fd, Fun K "given" "Parser.given" st_Parser_given (He.ma K (He.ga K "Parser") "given") fd ∧ Binds K fd ["self"] []
  F_Parser_either : ∃ fd, Fun K "either" "Parser.either" st_Parser_either (He.ma K (He.ga K "Parser") "either") fd ∧ Binds K fd ["self"] []
  F_Parser_both : ∃ fd, Fun K "both" "Parser.both" st_Parser_both (He.ma K (He.ga K "Parser") "both") fd ∧ Binds K fd ["self"] []
  F_Parser_turned : ∃ fd, Fun K "turned" "Parser.turned" st_Parser_turned (He.ma K (He.ga K "Parser") "turned") fd ∧ Binds K fd ["self"] []
  F_Parser_part : ∃ fd, Fun K "part" "Parser.part" st_Parser_part (He.ma K (He.ga K "Parser") "part") fd ∧ Binds K fd ["self"] []
  g_depth_of : mg "depth_of" = some (.ref (He.ga K "depth_of"))
  F_depth_of : ∃ fd, Fun K "depth_of" "depth_of" st_depth_of (He.ga K "depth_of") fd ∧ Binds K fd ["claim"] []
  g_parse : mg "parse" = some (.ref (He.ga K "parse"))
  F_parse : ∃ fd, Fun K "parse" "parse" st_parse (He.ga K "parse") fd ∧ Binds K fd ["chunk"] []
  g__law_next : mg "_law_next" = some (.ref (He.ga K "_law_next"))
  F__law_next : ∃ fd, Fun K "_law_next" "_law_next" st__law_next (He.ga K "_law_next") fd ∧ Binds K fd ["state", "limit"] []
  g__law_same : mg "_law_same" = some (.ref (He.ga K "_law_same"))
  F__law_same : ∃ fd, Fun K "_law_same" "_law_same" st__law_same (He.ga K "_law_same") fd ∧ Binds K fd ["actual", "expected"] []
  g__law_drawn : mg "_law_drawn" = some (.ref (He.ga K "_law_drawn"))
  F__law_drawn : ∃ fd, Fun K "_law_drawn" "_law_drawn" st__law_drawn (He.ga K "_law_drawn") fd ∧ Binds K fd ["state"] []
  g__law_tree : mg "_law_tree" = some (.ref (He.ga K "_law_tree"))
  F__law_tree : ∃ fd, Fun K "_law_tree" "_law_tree" st__law_tree (He.ga K "_law_tree") fd ∧ Binds K fd ["state", "depth"] []
  g__law_read : mg "_law_read" = some (.ref (He.ga K "_law_read"))
  F__law_read : ∃ fd, Fun K "_law_read" "_law_read" st__law_read (He.ga K "_law_read") fd ∧ Binds K fd ["chunk"] []
  g__law_pairs : mg "_law_pairs" = some (.ref (He.ga K "_law_pairs"))
  F__law_pairs : ∃ fd, Fun K "_law_pairs" "_law_pairs" st__law_pairs (He.ga K "_law_pairs") fd ∧ Binds K fd ["tokens"] []
  g__law_joined : mg "_law_joined" = some (.ref (He.ga K "_law_joined"))
  F__law_joined : ∃ fd, Fun K "_law_joined" "_law_joined" st__law_joined (He.ga K "_law_joined") fd ∧ Binds K fd ["tokens", "without", "blank"] []
  g__law_tokens : mg "_law_tokens" = some (.ref (He.ga K "_law_tokens"))
  F__law_tokens : ∃ fd, Fun K "_law_tokens" "_law_tokens" st__law_tokens (He.ga K "_law_tokens") fd ∧ Binds K fd ["claim", "line"] []
  g__law_most_open : mg "_law_most_open" = some (.ref (He.ga K "_law_most_open"))
  F__law_most_open : ∃ fd, Fun K "_law_most_open" "_law_most_open" st__law_most_open (He.ga K "_law_most_open") fd ∧ Binds K fd ["tokens"] []
  g_law : mg "law" = some (.ref (He.ga K "law"))
  F_law : ∃ fd, Fun K "law" "law" st_law (He.ga K "law") fd ∧ Binds K fd ["script"] []
  g_ChiploreError : mg "ChiploreError" = some (.ref (He.ga K "ChiploreError"))
  g_RefusedChunk : mg "RefusedChunk" = some (.ref (He.ga K "RefusedChunk"))
  g_Cursor : mg "Cursor" = some (.ref (He.ga K "Cursor"))
  g_Parser : mg "Parser" = some (.ref (He.ga K "Parser"))
  c_Cursor : Cls K (He.ga K "Cursor")
  n_Cursor_tokens : NoAttr K (He.ga K "Cursor") "tokens"
  n_Cursor_length : NoAttr K (He.ga K "Cursor") "length"
  n_Cursor_at : NoAttr K (He.ga K "Cursor") "at"
  n_Cursor_opened : NoAttr K (He.ga K "Cursor") "opened"
  m_Cursor_position : Meth K (He.ga K "Cursor") "position" (He.ma K (He.ga K "Cursor") "position")
  m_Cursor_at_end : Meth K (He.ga K "Cursor") "at_end" (He.ma K (He.ga K "Cursor") "at_end")
  m_Cursor_refuse : Meth K (He.ga K "Cursor") "refuse" (He.ma K (He.ga K "Cursor") "refuse")
  m_Cursor_sees : Meth K (He.ga K "Cursor") "sees" (He.ma K (He.ga K "Cursor") "sees")
  m_Cursor_sees_kind : Meth K (He.ga K "Cursor") "sees_kind" (He.ma K (He.ga K "Cursor") "sees_kind")
  m_Cursor_seen_of : Meth K (He.ga K "Cursor") "seen_of" (He.ma K (He.ga K "Cursor") "seen_of")
  m_Cursor_take : Meth K (He.ga K "Cursor") "take" (He.ma K (He.ga K "Cursor") "take")
  m_Cursor_take_kind : Meth K (He.ga K "Cursor") "take_kind" (He.ma K (He.ga K "Cursor") "take_kind")
  m_Cursor_accept : Meth K (He.ga K "Cursor") "accept" (He.ma K (He.ga K "Cursor") "accept")
  m_Cursor_expect : Meth K (He.ga K "Cursor") "expect" (He.ma K (He.ga K "Cursor") "expect")
  m_Cursor_enter : Meth K (He.ga K "Cursor") "enter" (He.ma K (He.ga K "Cursor") "enter")
  m_Cursor_close : Meth K (He.ga K "Cursor") "close" (He.ma K (He.ga K "Cursor") "close")
  k_Cursor : Mk K (He.ga K "Cursor") (He.ma K (He.ga K "Cursor") "__init__")
  c_Parser : Cls K (He.ga K "Parser")
  n_Parser_cursor : NoAttr K (He.ga K "Parser") "cursor"
  m_Parser_definition : Meth K (He.ga K "Parser") "definition" (He.ma K (He.ga K "Parser") "definition")
  m_Parser_same : Meth K (He.ga K "Parser") "same" (He.ma K (He.ga K "Parser") "same")
  m_Parser_given : Meth K (He.ga K "Parser") "given" (He.ma K (He.ga K "Parser") "given")
  m_Parser_either : Meth K (He.ga K "Parser") "either" (He.ma K (He.ga K "Parser") "either")
  m_Parser_both : Meth K (He.ga K "Parser") "both" (He.ma K (He.ga K "Parser") "both")
  m_Parser_turned : Meth K (He.ga K "Parser") "turned" (He.ma K (He.ga K "Parser") "turned")
  m_Parser_part : Meth K (He.ga K "Parser") "part" (He.ma K (He.ga K "Parser") "part")
  k_Parser : Mk K (He.ga K "Parser") (He.ma K (He.ga K "Parser") "__init__")
  s_LOWER : ∃ tk, mg "LOWER" = some (.str "abcdefghijklmnopqrstuvwxyz" tk)
  s_WORD : ∃ tk, mg "WORD" = some (.str "abcdefghijklmnopqrstuvwxyz0123456789_" tk)
  i_MOST_TOKENS : ∃ tk, mg "MOST_TOKENS" = some (.int 200 tk)
  i_MOST_OPEN : ∃ tk, mg "MOST_OPEN" = some (.int 12 tk)
  i_MOST_DEPTH : ∃ tk, mg "MOST_DEPTH" = some (.int 12 tk)
  g_KEYWORDS : mg "KEYWORDS" = some (.ref (He.ga K "KEYWORDS"))
  t_KEYWORDS : ∀ H, SqT K H (He.ga K "KEYWORDS") ([("note" : Str), ("ask" : Str), ("name" : Str), ("none" : Str)].map V.str)
  g_LONG_SIGNS : mg "LONG_SIGNS" = some (.ref (He.ga K "LONG_SIGNS"))
  t_LONG_SIGNS : ∀ H, SqT K H (He.ga K "LONG_SIGNS") ([("<->" : Str), ("->" : Str)].map V.str)
  g_SHORT_SIGNS : mg "SHORT_SIGNS" = some (.ref (He.ga K "SHORT_SIGNS"))
  t_SHORT_SIGNS : ∀ H, SqT K H (He.ga K "SHORT_SIGNS") ([("(" : Str), (")" : Str), ("&" : Str), ("|" : Str), ("~" : Str), ("=" : Str)].map V.str)
  g_LINES : mg "LINES" = some (.ref (He.ga K "LINES"))
  d_LINES : Tb K w (He.ga K "LINES") kv_LINES
  g_MARKS : mg "MARKS" = some (.ref (He.ga K "MARKS"))
  d_MARKS : Tb K w (He.ga K "MARKS") kv_MARKS
  rx : RX P w K mg base (He.ga K "RefusedChunk")
  xf : XfC K (He.ga K "RefusedChunk")
  xno : PySem.W.findIn K (.ref (He.ga K "RefusedChunk")) "position" = some none
  xc : ExcC K (He.ga K "RefusedChunk")
  xk : PySem.W.kitOne K (.ref (He.ga K "RefusedChunk")) (.ref (He.ga K "ChiploreError")) = some true
  xm : PySem.W.exmOne K (.ref (He.ga K "RefusedChunk")) (.ref (He.ga K "RefusedChunk")) = some true
end K63
namespace K63
open PySem PySem.Spec L2 DL
local macro_rules | `(tactic| walk_at "rd") => `(tactic| simp only [tdSeq, tdAsg, tdV, gdName, tdAnd, tdOr, tdNot, tdB, tdOp, tdCB, tdCons, tdNil, tdC, tdAug, tdSl, tdP, tdRet, tdTup, tdIf, tdIfS, gOrd, gI0, gI, gLen, gIx, gAdd, gInt, vw, ixP, gSl, tdDrop, tdRetN, tdNext, gIn_sc, gIn_ts, gIn_ls, gIn_t2, gIn_l2, gIn_l4, tdApp, sl_0, sl_1, sl_2, sl_3, sl_4, sl_5, ff, tt', true_and, id,
  gEq, eqS, tdFor, tdiT, tdiL, forR, tdRaise, tdCall, tdNotV, tdAndV, tdOrV, tdBox, tdZ, gdTup, gdCons, gdNil, tdBreak, tdCont, tdYes, icast, icast1, icast2, icast3, tdLst, gIn_l4, icastL, icastE, icastZ, ln_0, ln_1, ln_2, ln_3,
  List.getElem?_cons_zero, List.getElem?_cons_succ, List.set_cons_zero, List.set_cons_succ, Option.some.injEq, exists_eq_left', exists_eq_left, D.bl.injEq, decide_eq_true_eq])
variable {P : Program} {w : World} {K : PySem.W.Frag} {mg : Str → Option Value} {base : Heap}
abbrev lowT : Tx := tx "abcdefghijklmnopqrstuvwxyz"
abbrev wordT : Tx := tx "abcdefghijklmnopqrstuvwxyz0123456789_"
abbrev kwT : List Tx := [tx "note", tx "ask", tx "name", tx "none"]
/-- the word that starts at s -/
def wordAt (t : Tx) (s : Nat) : Tx := (t.drop s).takeWhile fun c => decide (c ∈ wordT)
def kindOf (x : Tx) : Tx := if x ∈ kwT then tx "keyword" else tx "name"
def m_read_word : M := fun ds S Q E => ∃ (t : Tx) (s : Nat), ds = [.str t, .int s] ∧ t.length ≤ 100000 ∧ s ≤ t.length ∧ Q (.tup [.str (kindOf (wordAt t s)), .str (wordAt t s), .int (s + (wordAt t s).length : Nat)]) S
theorem wordAt_le (t : Tx) (s : Nat) (h : s ≤ t.length) : s + (wordAt t s).length ≤ t.length := by
  have := tw_le (fun c => decide (c ∈ wordT)) (t.drop s)
  unfold wordAt
  rw [List.length_drop] at this
  omega
theorem d_read_word (Z : Zf P w K mg base) : Ca P w K mg base 1 "read_word" ["chunk", "start"] m_read_word := by
  obtain ⟨fd, F, hb⟩ := Z.F_read_word
  refine ⟨_, fd, df_of F sc_read_word (fun cdv A outer s H E F0 E' B => (dss_cons (ds_set 2 nd_read_word (dv 1))
    (dss_cons (ds_while (passes_of rfl) (PW.pt (dw_and (dt_cmp (od_ord op_lt) (dv 2) (de_cB oc_len rfl Z.f_len bb_len (da_cons (dv 0) da_nil)) rfl) (dw_and1 (dt_cmp od_in (de_ix (dv 0) (dv 2)) (de_gstr Z.s_WORD rfl) rfl)))) (dss_one (ds_aug 2 nd_read_word de_int dip_add)))
    (dss_cons (ds_set 3 nd_read_word (de_sl (dv 0) (do_some (dv 1)) (do_some (dv 2))))
    (dss_one (ds_ret (de_tup (da_cons (de_if (dt_cmp od_in (dv 3) (de_gtup Z.g_KEYWORDS Z.t_KEYWORDS (zs_KEYWORDS) rfl) rfl) de_str de_str) (da_cons (dv 3) (da_cons (dv 2) da_nil)))))))))) ?_, Z.g_read_word, F.kp, hb⟩
  intro ds S Q E hl ⟨t, s, e, ht, hs, hq⟩
  subst e
  rw [show startD N_read_word [.str t, .int s] = [some (.str t), some (.int s), none, none] from rfl]
  walk_at "rd"
  refine ⟨(wordAt t s).length + 1, while_ind (fun n ρ S' => ∃ j, ρ = [some (.str t), some (.int s), some (.int (s + j : Nat)), none] ∧ S' = S ∧ j ≤ (wordAt t s).length ∧ n + j = (wordAt t s).length + 1) ?_ ?_ _ _ _ ⟨0, by simp, rfl, Nat.zero_le _, rfl⟩⟩
  · rintro n ρ S' W hW ⟨j, rfl, rfl, hj, hn⟩
    walk_at "rd"
    refine ⟨sz5 (by omega), ?_⟩
    have hw := wordAt_le t s hs
    have key := tw_lt (fun c => decide (c ∈ wordT)) (t.drop s) j hj
    have fin : t.length ≤ sizeLine := sz5 (by omega)
    have out : j = (wordAt t s).length → (if cutL t (some (s : Int)) (some ((s + j : Nat) : Int)) ∈ kwT then
        Fini Q (D.tup [D.str (tx "keyword"), D.str (cutL t (some (s : Int)) (some ((s + j : Nat) : Int))), D.int ((s + j : Nat) : Int)]) S'
      else Fini Q (D.tup [D.str (tx "name"), D.str (cutL t (some (s : Int)) (some ((s + j : Nat) : Int))), D.int ((s + j : Nat) : Int)]) S') := fun e => by
      have ec : cutL t (some (s : Int)) (some ((s + j : Nat) : Int)) = wordAt t s := by
        rw [cutL_nn, e, Nat.add_sub_cancel_left]
        exact tw_take _ _
      rw [ec, e]
      unfold kindOf at hq
      by_cases hk : wordAt t s ∈ kwT
      · rw [if_pos hk]; rw [if_pos hk] at hq; exact fini hq
      · rw [if_neg hk]; rw [if_neg hk] at hq; exact fini hq
    by_cases hlt : s + j < t.length
    · rw [if_pos (by exact_mod_cast hlt), if_pos fin]
      simp only [atIn, List.getElem?_eq_getElem hlt, Option.map_some, Option.some.injEq, exists_eq_left', gIn_sc, id, D.bl.injEq]
      have e2 : (t.drop s)[j]? = some t[s + j] := by rw [List.getElem?_drop]; exact List.getElem?_eq_getElem hlt
      by_cases hc : t[s + j] ∈ wordT
      · rw [if_pos (dt hc)]
        have hj2 : j < (wordAt t s).length := key.mpr ⟨_, e2, dt hc⟩
        exact hW _ _ ⟨j + 1, rfl, rfl, hj2, by omega⟩
      · rw [if_neg (by simpa using hc)]
        refine ⟨fin, out ?_⟩
        have hn2 : ¬ j < (wordAt t s).length := fun z => by
          obtain ⟨c, h1, h2⟩ := key.mp z
          rw [e2] at h1; cases h1
          exact hc (by simpa using h2)
        omega
    · rw [if_neg (by exact_mod_cast hlt)]
      exact ⟨fin, out (by omega)⟩
  · rintro ρ S' ⟨j, _, _, h1, h2⟩
    omega
end K63
namespace K63
open PySem PySem.Spec L2 DL
local macro_rules | `(tactic| walk_at "rd") => `(tactic| simp only [tdSeq, tdAsg, tdV, gdName, tdAnd, tdOr, tdNot, tdB, tdOp, tdCB, tdCons, tdNil, tdC, tdAug, tdSl, tdP, tdRet, tdTup, tdIf, tdIfS, gOrd, gI0, gI, gLen, gIx, gAdd, gInt, vw, ixP, gSl, tdDrop, tdRetN, tdNext, gIn_sc, gIn_ts, gIn_ls, gIn_t2, gIn_l2, gIn_l4, tdApp, sl_0, sl_1, sl_2, sl_3, sl_4, sl_5, ff, tt', true_and, id,
  gEq, eqS, tdFor, tdiT, tdiL, forR, tdRaise, tdCall, tdNotV, tdAndV, tdOrV, tdBox, tdZ, gdTup, gdCons, gdNil, tdBreak, tdCont, tdYes, icast, icast1, icast2, icast3, tdLst, gIn_l4, icastL, icastE, icastZ, ln_0, ln_1, ln_2, ln_3,
  List.getElem?_cons_zero, List.getElem?_cons_succ, List.set_cons_zero, List.set_cons_succ, Option.some.injEq, exists_eq_left', exists_eq_left, D.bl.injEq, decide_eq_true_eq])
variable {P : Program} {w : World} {K : PySem.W.Frag} {mg : Str → Option Value} {base : Heap}
abbrev shortT : List Tx := [tx "(", tx ")", tx "&", tx "|", tx "~", tx "="]
/-- the token that starts at s -/
def tokAt (t : Tx) (s : Nat) : Option (Tx × Tx × Nat) := match t[s]? with
  | none => none
  | some c => if c ∈ lowT then some (kindOf (wordAt t s), wordAt t s, s + (wordAt t s).length)
    else if (t.drop s).take 3 = tx "<->" then some (tx "sign", tx "<->", s + 3)
    else if (t.drop s).take 2 = tx "->" then some (tx "sign", tx "->", s + 2)
    else if [c] ∈ shortT then some (tx "sign", [c], s + 1)
    else none
/-- the refusal at i -/
def xpos (K : PySem.W.Frag) (i : Nat) : Exn := ⟨He.ga K "RefusedChunk", [("position", .int i)]⟩
def m_read_token (K : PySem.W.Frag) : M := fun ds S Q E => ∃ (t : Tx) (s : Nat), ds = [.str t, .int s] ∧ t.length ≤ 100000 ∧ s < t.length ∧ match tokAt t s with
  | some (k, v, e) => Q (.tup [.str k, .str v, .int (e : Nat)]) S
  | none => E (xpos K s) S
theorem d_read_token (Z : Zf P w K mg base) : Ca P w K mg base 3 "read_token" ["chunk", "start"] (m_read_token K) := by
  obtain ⟨fd, F, hb⟩ := Z.F_read_token
  refine ⟨_, fd, df_of (k := 2) F sc_read_token (fun cdv A outer s H E F0 E' B => (dss_cons (ds_if (dt_cmp od_in (de_ix (dv 0) (dv 1)) (de_gstr Z.s_LOWER rfl) rfl) (dss_one (ds_ret (de_ca (d_read_word Z) (B.mono (by omega)) rfl (da_cons (dv 0) (da_cons (dv 1) da_nil))))) dss_nil)
    (dss_cons (ds_for (passes_of rfl) rfl (di_tup (de_gtup Z.g_LONG_SIGNS Z.t_LONG_SIGNS (zs_LONG_SIGNS) rfl)) (dg_name 2 nd_read_token) (dss_one (ds_if (dt_cmp (od_eq B.units) (de_sl (dv 0) (do_some (dv 1)) (do_some (de_op od_add (dv 1) (de_cB oc_len rfl Z.f_len bb_len (da_cons (dv 2) da_nil))))) (dv 2) rfl) (dss_one (ds_ret (de_tup (da_cons de_str (da_cons (dv 2) (da_cons (de_op od_add (dv 1) (de_cB oc_len rfl Z.f_len bb_len (da_cons (dv 2) da_nil))) da_nil)))))) dss_nil)))
    (dss_cons (ds_if (dt_cmp od_in (de_ix (dv 0) (dv 1)) (de_gtup Z.g_SHORT_SIGNS Z.t_SHORT_SIGNS (zs_SHORT_SIGNS) rfl) rfl) (dss_one (ds_ret (de_tup (da_cons de_str (da_cons (de_ix (dv 0) (dv 1)) (da_cons (de_op od_add (dv 1) de_int) da_nil)))))) dss_nil)
    (dss_one (ds_raise (k := 0) Z.rx (B.mono (by omega)) rfl Z.g_RefusedChunk (dv 1))))))) ?_, Z.g_read_token, F.kp, hb⟩
  intro ds S Q E hl ⟨t, s, e, ht, hs, hq⟩
  subst e
  rw [show startD N_read_token [.str t, .int s] = [some (.str t), some (.int s), none] from rfl]
  have fin : t.length ≤ sizeLine := sz5 (by omega)
  unfold tokAt at hq
  rw [List.getElem?_eq_getElem hs] at hq
  walk_at "rd"
  simp only [if_pos fin, atIn, List.getElem?_eq_getElem hs, Option.map_some, Option.some.injEq, exists_eq_left', gIn_sc, id, D.bl.injEq, decide_eq_true_eq]
  dsimp only at hq
  by_cases hc : t[s] ∈ lowT
  · rw [if_pos hc] at hq ⊢
    exact ⟨t, s, rfl, ht, by omega, fini hq⟩
  · rw [if_neg hc] at hq ⊢
    have l3 : (tx "<->").length = 3 := rfl
    have l2 : (tx "->").length = 2 := rfl
    rw [show List.map D.str [tx "<->", tx "->"] = [.str (tx "<->"), .str (tx "->")] from rfl]
    walk_at "rd"
    simp only [l3, l2, icast, cutL_nn, Nat.add_sub_cancel_left]
    refine ⟨sz5 (by omega), fin, ?_⟩
    by_cases h3 : (t.drop s).take 3 = tx "<->"
    · rw [if_pos h3] at hq ⊢
      exact ⟨sz5 (by omega), fini hq⟩
    · rw [if_neg h3] at hq ⊢
      refine ⟨sz5 (by omega), fin, ?_⟩
      by_cases h2 : (t.drop s).take 2 = tx "->"
      · rw [if_pos h2] at hq ⊢
        exact ⟨sz5 (by omega), fini hq⟩
      · rw [if_neg h2] at hq ⊢
        simp only [if_pos fin, atIn, List.getElem?_eq_getElem hs, Option.map_some, Option.some.injEq, exists_eq_left', gIn_ts, id, D.bl.injEq, decide_eq_true_eq]
        by_cases h1 : [t[s]] ∈ shortT
        · rw [if_pos h1] at hq ⊢
          exact fini hq
        · rw [if_neg h1] at hq ⊢
          exact ⟨s, rfl, by omega, hq⟩
end K63
namespace K63
open PySem PySem.Spec L2 DL
local macro_rules | `(tactic| walk_at "rd") => `(tactic| simp only [tdSeq, tdAsg, tdV, gdName, tdAnd, tdOr, tdNot, tdB, tdOp, tdCB, tdCons, tdNil, tdC, tdAug, tdSl, tdP, tdRet, tdTup, tdIf, tdIfS, gOrd, gI0, gI, gLen, gIx, gAdd, gInt, vw, ixP, gSl, tdDrop, tdRetN, tdNext, gIn_sc, gIn_ts, gIn_ls, gIn_t2, gIn_l2, gIn_l4, tdApp, sl_0, sl_1, sl_2, sl_3, sl_4, sl_5, ff, tt', true_and, id,
  gEq, eqS, tdFor, tdiT, tdiL, forR, tdRaise, tdCall, tdNotV, tdAndV, tdOrV, tdBox, tdZ, gdTup, gdCons, gdNil, tdBreak, tdCont, tdYes, icast, icast1, icast2, icast3, tdLst, gIn_l4, icastL, icastE, icastZ, ln_0, ln_1, ln_2, ln_3,
  List.getElem?_cons_zero, List.getElem?_cons_succ, List.set_cons_zero, List.set_cons_succ, Option.some.injEq, exists_eq_left', exists_eq_left, D.bl.injEq, decide_eq_true_eq])
variable {P : Program} {w : World} {K : PySem.W.Frag} {mg : Str → Option Value} {base : Heap}
theorem low_word {c : Nat} (h : c ∈ lowT) : c ∈ wordT := by
  have : ∀ x ∈ lowT, x ∈ wordT := by decide
  exact this c h
theorem tokAt_lt {t : Tx} {s : Nat} {k v : Tx} {e : Nat} (h : tokAt t s = some (k, v, e)) : s < e ∧ e ≤ t.length := by
  unfold tokAt at h
  by_cases hs : s < t.length
  · rw [List.getElem?_eq_getElem hs] at h
    dsimp only at h
    split at h
    · rename_i hc
      injection h with h; injection h with h1 h; injection h with h2 h3
      subst h3
      have h4 := wordAt_le t s (by omega)
      refine ⟨?_, h4⟩
      have key := (tw_lt (fun c => decide (c ∈ wordT)) (t.drop s) 0 (Nat.zero_le _)).mpr ⟨t[s], by rw [List.getElem?_drop]; simp, dt (low_word hc)⟩
      unfold wordAt
      omega
    · split at h
      · rename_i h3
        injection h with h; injection h with h1 h; injection h with h2 h4
        have := congrArg List.length h3
        rw [List.length_take, List.length_drop, show (tx "<->").length = 3 from rfl] at this
        omega
      · split at h
        · rename_i h3
          injection h with h; injection h with h1 h; injection h with h2 h4
          have := congrArg List.length h3
          rw [List.length_take, List.length_drop, show (tx "->").length = 2 from rfl] at this
          omega
        · split at h
          · injection h with h; injection h with h1 h; injection h with h2 h4
            omega
          · cases h
  · rw [List.getElem?_eq_none (by omega)] at h
    cases h
abbrev Tok := Tx × Tx × Nat
def tokD (k : Tok) : D := .tup [.str k.1, .str k.2.1, .int (k.2.2 : Nat)]
abbrev blankT : List Tx := [tx " ", tx "\n"]
/-- the tokens from s on (n: enough turns), or the place of the refusal -/
def tkz (t : Tx) : Nat → Nat → Except Nat (List Tok)
  | 0, _ => .ok []
  | n + 1, s => match t[s]? with
    | none => .ok []
    | some c => if [c] ∈ blankT then tkz t n (s + 1) else match tokAt t s with
      | none => .error s
      | some (k, v, e) => match tkz t n e with
        | .error p => .error p
        | .ok l => .ok ((k, v, s) :: l)
def toks (t : Tx) : Except Nat (List Tok) := tkz t (t.length + 1) 0
def m_tokenize (K : PySem.W.Frag) : M := fun ds S Q E => ∃ t : Tx, ds = [.str t] ∧ t.length ≤ 100000 ∧ match toks t with
  | .ok l => Q (.lst (l.map tokD)) S
  | .error p => ∀ S', Sub S S' → E (xpos K p) S'
theorem d_tokenize (Z : Zf P w K mg base) : Ca P w K mg base 4 "tokenize" ["chunk"] (m_tokenize K) := by
  obtain ⟨fd, F, hb⟩ := Z.F_tokenize
  refine ⟨_, fd, df_of (k := 3) F sc_tokenize (fun cdv A outer s H E F0 E' B => (dss_cons (ds_set 1 nd_tokenize (de_box da_nil))
    (dss_cons (ds_set 2 nd_tokenize de_int)
    (dss_cons (ds_while (passes_of rfl) (dt_cmp (od_ord op_lt) (dv 2) (de_cB oc_len rfl Z.f_len bb_len (da_cons (dv 0) da_nil)) rfl) (dss_one (ds_if (dt_cmp od_in (de_ix (dv 0) (dv 2)) (de_tup (da_cons de_str (da_cons de_str da_nil))) rfl) (dss_one (ds_aug 2 nd_tokenize de_int dip_add)) (dss_cons (ds_asg (de_ca (d_read_token Z) (B.mono (by omega)) rfl (da_cons (dv 0) (da_cons (dv 2) da_nil))) (dg_tup (n := 3) rfl (dgs_cons (dg_name 3 nd_tokenize) (dgs_cons (dg_name 4 nd_tokenize) (dgs_cons (dg_name 5 nd_tokenize) dgs_nil)))))
    (dss_cons (ds_expr (de_app (dv 1) (de_tup (da_cons (dv 3) (da_cons (dv 4) (da_cons (dv 2) da_nil))))))
    (dss_one (ds_set 2 nd_tokenize (dv 5))))))))
    (dss_one (ds_ret (dz 1))))))) ?_, Z.g_tokenize, F.kp, hb⟩
  intro ds S Q E hl ⟨t, e, ht, hq⟩
  subst e
  rw [show startD N_tokenize [.str t] = [some (.str t), none, none, none, none, none] from rfl]
  have fin : t.length ≤ sizeLine := sz5 (by omega)
  walk_at "rd"
  intro a ha
  refine ⟨t.length + 2, while_ind (fun n ρ S' => ∃ s acc x y z m, ρ = [some (.str t), some (.ref a), some (.int (s : Nat)), x, y, z] ∧ S' = sup S a (.lst (acc.map tokD)) ∧ s ≤ t.length ∧ t.length < m + s ∧ n = m + 1 ∧ acc.length ≤ s ∧
    (match tkz t m s with
      | .ok l => Q (.lst ((acc ++ l).map tokD)) S
      | .error p => ∀ S', Sub S S' → E (xpos K p) S')) ?_ ?_ _ _ _ ⟨0, [], none, none, none, t.length + 1, rfl, rfl, Nat.zero_le _, by omega, rfl, Nat.zero_le _, hq⟩⟩
  · rintro n ρ S' W hW ⟨s, acc, x, y, z, m, rfl, rfl, hs, hm, hn, hacc, hq⟩
    walk_at "rd"
    refine ⟨fin, ?_⟩
    obtain ⟨m, rfl⟩ : ∃ m', m = m' + 1 := ⟨m - 1, by omega⟩
    have hn : n = m + 1 := by omega
    subst hn
    unfold tkz at hq
    by_cases hlt : s < t.length
    · rw [if_pos hlt]
      rw [List.getElem?_eq_getElem hlt] at hq
      simp only [if_pos fin, atIn, List.getElem?_eq_getElem hlt, Option.map_some, Option.some.injEq, exists_eq_left', gIn_t2, id, D.bl.injEq, decide_eq_true_eq]
      dsimp only at hq
      by_cases hb : [t[s]] ∈ blankT
      · rw [if_pos hb] at hq ⊢
        exact hW _ _ ⟨s + 1, acc, x, y, z, m, rfl, rfl, hlt, by omega, rfl, by omega, hq⟩
      · rw [if_neg hb] at hq ⊢
        refine ⟨t, s, rfl, ht, hlt, ?_⟩
        cases hk : tokAt t s with
        | none =>
          rw [hk] at hq
          exact hq _ (Sub.sup ha)
        | some kve =>
          obtain ⟨k, v, e⟩ := kve
          rw [hk] at hq
          obtain ⟨h1, h2⟩ := tokAt_lt hk
          dsimp only at hq ⊢
          refine ⟨_, rfl, rfl, _, _, rfl, _, _, rfl, _, _, rfl, rfl, ⟨_, _, rfl, sup_same⟩, _, _, rfl, sup_same, ?_, ?_⟩
          · rw [List.length_map]
            have : (1000000 : Nat) ≤ sizeLine := sz5 (by omega)
            omega
          · refine hW _ _ ⟨e, acc ++ [(k, v, s)], _, _, _, m, rfl, by rw [sup_sup, List.map_append]; rfl, h2, by omega, rfl, by simp; omega, ?_⟩
            cases hr : tkz t m e with
            | error p =>
              rw [hr] at hq
              exact hq
            | ok l =>
              rw [hr] at hq
              show Q (.lst ((acc ++ [(k, v, s)] ++ l).map tokD)) S
              rw [List.append_assoc]
              exact hq
    · rw [if_neg hlt]
      rw [List.getElem?_eq_none (by omega)] at hq
      dsimp only at hq
      rw [List.append_nil] at hq
      refine ⟨_, _, rfl, sup_same, ?_⟩
      rw [sdel_sup ha]
      exact fini hq
  · rintro ρ S' ⟨s, acc, x, y, z, m, _, _, _, _, h, _⟩
    omega
end K63
namespace K63
open PySem PySem.Spec L2 DL
local macro_rules | `(tactic| walk_at "rd") => `(tactic| simp only [tdSeq, tdAsg, tdV, gdName, tdAnd, tdOr, tdNot, tdB, tdOp, tdCB, tdCons, tdNil, tdC, tdAug, tdSl, tdP, tdRet, tdTup, tdIf, tdIfS, gOrd, gI0, gI, gLen, gIx, gAdd, gInt, vw, ixP, gSl, tdDrop, tdRetN, tdNext, gIn_sc, gIn_ts, gIn_ls, gIn_t2, gIn_l2, gIn_l4, tdApp, sl_0, sl_1, sl_2, sl_3, sl_4, sl_5, ff, tt', true_and, id,
  gEq, eqS, tdFor, tdiT, tdiL, forR, tdRaise, tdCall, tdNotV, tdAndV, tdOrV, tdBox, tdZ, gdTup, gdCons, gdNil, tdBreak, tdCont, tdYes, icast, icast1, icast2, icast3, tdLst, gIn_l4, icastL, icastE, icastZ, ln_0, ln_1, ln_2, ln_3,
  List.getElem?_cons_zero, List.getElem?_cons_succ, List.set_cons_zero, List.set_cons_succ, Option.some.injEq, exists_eq_left', exists_eq_left, D.bl.injEq, decide_eq_true_eq])
variable {P : Program} {w : World} {K : PySem.W.Frag} {mg : Str → Option Value} {base : Heap}
def m__law_letters : M := fun ds S Q E => ds = [] ∧ Q (.str lowT) S
theorem fini' {Q : D → Store → Prop} {d : D} {S S' : Store} (h : Sub S S') (q : Q d S) : Fini Q d S' := .inl ⟨S, h, q⟩
end K63
namespace K63
open PySem PySem.Spec L2 DL
local macro_rules | `(tactic| walk_at "rd") => `(tactic| simp only [tdSeq, tdAsg, tdV, gdName, tdAnd, tdOr, tdNot, tdB, tdOp, tdCB, tdCons, tdNil, tdC, tdAug, tdSl, tdP, tdRet, tdTup, tdIf, tdIfS, gOrd, gI0, gI, gLen, gIx, gAdd, gInt, vw, ixP, gSl, tdDrop, tdRetN, tdNext, gIn_sc, gIn_ts, gIn_ls, gIn_t2, gIn_l2, gIn_l4, tdApp, sl_0, sl_1, sl_2, sl_3, sl_4, sl_5, ff, tt', true_and, id,
  gEq, eqS, tdFor, tdiT, tdiL, forR, tdRaise, tdCall, tdNotV, tdAndV, tdOrV, tdBox, tdZ, gdTup, gdCons, gdNil, tdBreak, tdCont, tdYes, icast, icast1, icast2, icast3, tdLst, gIn_l4, icastL, icastE, icastZ, ln_0, ln_1, ln_2, ln_3,
  List.getElem?_cons_zero, List.getElem?_cons_succ, List.set_cons_zero, List.set_cons_succ, Option.some.injEq, exists_eq_left', exists_eq_left, D.bl.injEq, decide_eq_true_eq])
variable {P : Program} {w : World} {K : PySem.W.Frag} {mg : Str → Option Value} {base : Heap}
abbrev CuC (K : PySem.W.Frag) : Addr := He.ga K "Cursor"
def curF (l : List Tok) (len at_ op : Nat) : List (Str × D) := [("tokens", .lst (l.map tokD)), ("length", .int len), ("at", .int at_), ("opened", .int op)]
abbrev curO (K : PySem.W.Frag) (l : List Tok) (len at_ op : Nat) : DO := .ins (CuC K) (curF l len at_ op)
section
variable {l : List Tok} {len at_ op : Nat}
theorem lk_tokens : (curF l len at_ op).lookup ("tokens" : Str) = some (.lst (l.map tokD)) := rfl
theorem lk_length : (curF l len at_ op).lookup ("length" : Str) = some (.int len) := rfl
theorem lk_at : (curF l len at_ op).lookup ("at" : Str) = some (.int at_) := rfl
theorem lk_opened : (curF l len at_ op).lookup ("opened" : Str) = some (.int op) := rfl
theorem lm_at_end : (curF l len at_ op).lookup ("at_end" : Str) = none := rfl
theorem lm_position : (curF l len at_ op).lookup ("position" : Str) = none := rfl
theorem lm_refuse : (curF l len at_ op).lookup ("refuse" : Str) = none := rfl
theorem lm_sees : (curF l len at_ op).lookup ("sees" : Str) = none := rfl
theorem lm_sees_kind : (curF l len at_ op).lookup ("sees_kind" : Str) = none := rfl
theorem lm_take : (curF l len at_ op).lookup ("take" : Str) = none := rfl
theorem lm_take_kind : (curF l len at_ op).lookup ("take_kind" : Str) = none := rfl
theorem lm_accept : (curF l len at_ op).lookup ("accept" : Str) = none := rfl
theorem lm_expect : (curF l len at_ op).lookup ("expect" : Str) = none := rfl
theorem lm_seen_of : (curF l len at_ op).lookup ("seen_of" : Str) = none := rfl
theorem lm_enter : (curF l len at_ op).lookup ("enter" : Str) = none := rfl
theorem lm_close : (curF l len at_ op).lookup ("close" : Str) = none := rfl
theorem curF_len : ((curF l len at_ op).length < 1000) = True := eq_true (show 4 < 1000 by omega)
theorem pu_at (n : Nat) : putFD "at" (.int n) (curF l len at_ op) = curF l len n op := rfl
theorem pu_opened (n : Nat) : putFD "opened" (.int n) (curF l len at_ op) = curF l len at_ n := rfl
end
section
theorem pl_tokens (Z : Zf P w K mg base) : Plain K "tokens" (CuC K) = True := eq_true ⟨Z.c_Cursor, Z.n_Cursor_tokens⟩
theorem pl_length (Z : Zf P w K mg base) : Plain K "length" (CuC K) = True := eq_true ⟨Z.c_Cursor, Z.n_Cursor_length⟩
theorem pl_at (Z : Zf P w K mg base) : Plain K "at" (CuC K) = True := eq_true ⟨Z.c_Cursor, Z.n_Cursor_at⟩
theorem pl_opened (Z : Zf P w K mg base) : Plain K "opened" (CuC K) = True := eq_true ⟨Z.c_Cursor, Z.n_Cursor_opened⟩
end
/-- the cursor at c, in S -/
structure Cu (K : PySem.W.Frag) (c : Addr) (l : List Tok) (len at_ op : Nat) (S : Store) : Prop where
  o : S c = some (curO K l len at_ op)
  le : at_ ≤ l.length
  sz : l.length ≤ 100000
  ln : len ≤ 100000
  ps : ∀ k ∈ l, k.2.2 ≤ 100000
def posOf (l : List Tok) (len at_ : Nat) : Nat := match l[at_]? with
  | some k => k.2.2
  | none => len
theorem Cu.pos {c : Addr} {l : List Tok} {len at_ op : Nat} {S : Store} (h : Cu K c l len at_ op S) : posOf l len at_ ≤ 100000 := by
  unfold posOf
  split
  · rename_i k hk
    exact h.ps k (List.mem_of_getElem? hk)
  · exact h.ln
def seesW (l : List Tok) (at_ : Nat) (x : Tx) : Bool := match l[at_]? with
  | some k => decide (k.1 ∈ [tx "keyword", tx "sign"]) && decide (k.2.1 = x)
  | none => false
def kindW (l : List Tok) (at_ : Nat) (x : Tx) : Bool := match l[at_]? with
  | some k => decide (k.1 = x)
  | none => false
local macro_rules | `(tactic| walk_at "rds") => `(tactic| simp only [tdSeq, tdAsg, tdV, gdName, tdAnd, tdOr, tdNot, tdB, tdOp, tdCB, tdCons, tdNil, tdC, tdAug, tdSl, tdP, tdRet, tdTup, tdIf, tdIfS, gOrd, gI0, gI, gLen, gIx, gAdd, gInt, vw, ixP, gSl, tdDrop, tdRetN, tdNext, gIn_sc, gIn_ts, gIn_ls, gIn_t2, gIn_l2, gIn_l4, tdApp, sl_0, sl_1, sl_2, sl_3, sl_4, sl_5, ff, tt', true_and, id,
  gEq, eqS, tdFor, tdiT, tdiL, forR, tdRaise, tdCall, tdNotV, tdAndV, tdOrV, tdBox, tdZ, gdTup, gdCons, gdNil, tdBreak, tdCont, tdYes, icast, icast1, icast2, icast3, tdLst, gIn_l4, icastL, icastE, icastZ, ln_0, ln_1, ln_2, ln_3,
  List.getElem?_cons_zero, List.getElem?_cons_succ, List.set_cons_zero, List.set_cons_succ, Option.some.injEq, exists_eq_left', exists_eq_left, D.bl.injEq, decide_eq_true_eq,
  tdFldC, tdMeth, tdMake, tdPutF, tdAugF, D.ref.injEq, DO.ins.injEq, and_assoc, icE12, icE200, icS1, DL.gSub, D.int.injEq, D.str.injEq, sup_same, curF_len, eq_self, not_true_eq_false, not_false_eq_true, Bool.false_eq_true, Bool.not_eq_true, decide_not, atIn, atI_0, atI_1, atI_2, List.getElem?_map, Option.map_some, Option.map_none, tokD, decide_true, decide_false, Bool.not_true, Bool.not_false, if_true, if_false, lm_0, lm_1, lm_2, List.length_map, exists_and_left, lk_tokens, lk_length, lk_at, lk_opened, lm_at_end, lm_position, lm_refuse, lm_sees, lm_sees_kind, lm_take, lm_take_kind, lm_accept, lm_expect, lm_seen_of, lm_enter, lm_close, pu_at, pu_opened, *])
def m_at_end (K : PySem.W.Frag) : M := fun ds S Q E => ∃ c l len at_ op, ds = [.ref c] ∧ Cu K c l len at_ op S ∧ Q (.bl (decide (at_ = l.length))) S
theorem d_Cursor_at_end (Z : Zf P w K mg base) : Me P w K mg base 1 (CuC K) "at_end" ["self"] (m_at_end K) := by
  obtain ⟨fd, F, hb⟩ := Z.F_Cursor_at_end
  refine ⟨⟨_, fd, df_of (k := 0) F sc_Cursor_at_end (fun cdv A outer s H E F0 E' B => (dss_one (ds_ret (de_cmp (od_eq B.units) (de_fldK K rfl (dv 0)) (de_cB oc_len rfl Z.f_len bb_len (da_cons (de_fldK K rfl (dv 0)) da_nil)) rfl)))) ?_, Z.m_Cursor_at_end, hb⟩, Z.c_Cursor⟩
  rintro ds S Q E hl ⟨c, l, len, at_, op, rfl, h, hq⟩
  rw [show startD N_Cursor_at_end [.ref c] = [some (.ref c)] from rfl]
  clear hl
  have ho := h.o
  have p1 := pl_at Z
  have p2 := pl_tokens Z
  walk_at "rds"
  exact fini hq
def m_position (K : PySem.W.Frag) : M := fun ds S Q E => ∃ c l len at_ op, ds = [.ref c] ∧ Cu K c l len at_ op S ∧ Q (.int (posOf l len at_ : Nat)) S
theorem d_Cursor_position (Z : Zf P w K mg base) : Me P w K mg base 2 (CuC K) "position" ["self"] (m_position K) := by
  obtain ⟨fd, F, hb⟩ := Z.F_Cursor_position
  refine ⟨⟨_, fd, df_of (k := 1) F sc_Cursor_position (fun cdv A outer s H E F0 E' B => (dss_cons (ds_if (dt_val (de_me0 (dv 0) (d_Cursor_at_end Z) (B.mono (by omega)))) (dss_one (ds_ret (de_fldK K rfl (dv 0)))) dss_nil)
    (dss_one (ds_ret (de_ix (de_ix (de_fldK K rfl (dv 0)) (de_fldK K rfl (dv 0))) de_int))))) ?_, Z.m_Cursor_position, hb⟩, Z.c_Cursor⟩
  rintro ds S Q E hl ⟨c, l, len, at_, op, rfl, h, hq⟩
  rw [show startD N_Cursor_position [.ref c] = [some (.ref c)] from rfl]
  clear hl
  have ho := h.o
  have p1 := pl_at Z
  have p2 := pl_tokens Z
  have p3 := pl_length Z
  unfold posOf at hq
  walk_at "rds"
  refine ⟨c, l, len, at_, op, rfl, h, ?_⟩
  by_cases he : at_ = l.length
  · subst he
    have hk : l[l.length]? = none := List.getElem?_eq_none (Nat.le_refl _)
    rw [hk] at hq
    walk_at "rds"
    exact fini hq
  · have hlt : at_ < l.length := by have := h.le; omega
    have hk : l[at_]? = some l[at_] := List.getElem?_eq_getElem hlt
    rw [hk] at hq
    walk_at "rds"
    exact fini hq
theorem ro {c : Addr} {l : List Tok} {len at_ op : Nat} {S : Store} (h : Cu K c l len at_ op S) : sup S c (curO K l len at_ op) = S := sup_id h.o
/-- what follows a step of the cursor at c -/
def Res (K : PySem.W.Frag) (c : Addr) (l : List Tok) (len : Nat) (S : Store) (Q : D → Store → Prop) (E : XD) : Except Nat (D × Nat × Nat) → Prop
  | .ok (d, at_, op) => Q d (sup S c (curO K l len at_ op))
  | .error p => ∀ S', (∀ b, b ≠ c → S' b = S b) → E (xpos K p) S'
def m_refuse (K : PySem.W.Frag) : M := fun ds S Q E => ∃ c l len at_ op, ds = [.ref c] ∧ Cu K c l len at_ op S ∧ E (xpos K (posOf l len at_)) S
theorem d_Cursor_refuse (Z : Zf P w K mg base) : Me P w K mg base 3 (CuC K) "refuse" ["self"] (m_refuse K) := by
  obtain ⟨fd, F, hb⟩ := Z.F_Cursor_refuse
  refine ⟨⟨_, fd, df_of (k := 2) F sc_Cursor_refuse (fun cdv A outer s H E F0 E' B => (dss_one (ds_raise (k := 0) Z.rx (B.mono (by omega)) rfl Z.g_RefusedChunk (de_me0 (dv 0) (d_Cursor_position Z) (B.mono (by omega)))))) ?_, Z.m_Cursor_refuse, hb⟩, Z.c_Cursor⟩
  rintro ds S Q E hl ⟨c, l, len, at_, op, rfl, h, hq⟩
  rw [show startD N_Cursor_refuse [.ref c] = [some (.ref c)] from rfl]
  clear hl
  have ho := h.o
  walk_at "rds"
  refine ⟨c, l, len, at_, op, rfl, h, _, rfl, ?_, hq⟩
  have := h.pos
  omega
def m_sees (K : PySem.W.Frag) : M := fun ds S Q E => ∃ c l len at_ op x, ds = [.ref c, .str x] ∧ Cu K c l len at_ op S ∧ Q (.bl (seesW l at_ x)) S
theorem d_Cursor_sees (Z : Zf P w K mg base) : Me P w K mg base 2 (CuC K) "sees" ["self", "word"] (m_sees K) := by
  obtain ⟨fd, F, hb⟩ := Z.F_Cursor_sees
  refine ⟨⟨_, fd, df_of (k := 1) F sc_Cursor_sees (fun cdv A outer s H E F0 E' B => (dss_one (ds_ret (de_and (de_not (de_me0 (dv 0) (d_Cursor_at_end Z) (B.mono (by omega)))) (de_and (de_cmp od_in (de_ix (de_ix (de_fldK K rfl (dv 0)) (de_fldK K rfl (dv 0))) de_int) (de_tup (da_cons de_str (da_cons de_str da_nil))) rfl) (de_one (de_cmp (od_eq B.units) (de_ix (de_ix (de_fldK K rfl (dv 0)) (de_fldK K rfl (dv 0))) de_int) (dv 1) rfl))))))) ?_, Z.m_Cursor_sees, hb⟩, Z.c_Cursor⟩
  rintro ds S Q E hl ⟨c, l, len, at_, op, x, rfl, h, hq⟩
  rw [show startD N_Cursor_sees [.ref c, .str x] = [some (.ref c), some (.str x)] from rfl]
  clear hl
  have ho := h.o
  have p1 := pl_at Z
  have p2 := pl_tokens Z
  walk_at "rds"
  refine ⟨c, l, len, at_, op, rfl, h, ?_⟩
  unfold seesW at hq
  by_cases he : at_ = l.length
  · subst he
    have hk : l[l.length]? = none := List.getElem?_eq_none (Nat.le_refl _)
    rw [hk] at hq
    walk_at "rds"
    exact fini hq
  · have hlt : at_ < l.length := by have := h.le; omega
    have hk : l[at_]? = some l[at_] := List.getElem?_eq_getElem hlt
    rw [hk] at hq
    walk_at "rds"
    dsimp only at hq
    by_cases hm : l[at_].1 ∈ [tx "keyword", tx "sign"]
    · rw [if_pos hm]
      rw [dt hm, Bool.true_and] at hq
      exact fini hq
    · rw [if_neg hm]
      rw [df hm, Bool.false_and] at hq
      exact fini hq
def m_sees_kind (K : PySem.W.Frag) : M := fun ds S Q E => ∃ c l len at_ op x, ds = [.ref c, .str x] ∧ Cu K c l len at_ op S ∧ Q (.bl (kindW l at_ x)) S
theorem d_Cursor_sees_kind (Z : Zf P w K mg base) : Me P w K mg base 2 (CuC K) "sees_kind" ["self", "kind"] (m_sees_kind K) := by
  obtain ⟨fd, F, hb⟩ := Z.F_Cursor_sees_kind
  refine ⟨⟨_, fd, df_of (k := 1) F sc_Cursor_sees_kind (fun cdv A outer s H E F0 E' B => (dss_one (ds_ret (de_and (de_not (de_me0 (dv 0) (d_Cursor_at_end Z) (B.mono (by omega)))) (de_one (de_cmp (od_eq B.units) (de_ix (de_ix (de_fldK K rfl (dv 0)) (de_fldK K rfl (dv 0))) de_int) (dv 1) rfl)))))) ?_, Z.m_Cursor_sees_kind, hb⟩, Z.c_Cursor⟩
  rintro ds S Q E hl ⟨c, l, len, at_, op, x, rfl, h, hq⟩
  rw [show startD N_Cursor_sees_kind [.ref c, .str x] = [some (.ref c), some (.str x)] from rfl]
  clear hl
  have ho := h.o
  have p1 := pl_at Z
  have p2 := pl_tokens Z
  walk_at "rds"
  refine ⟨c, l, len, at_, op, rfl, h, ?_⟩
  unfold kindW at hq
  by_cases he : at_ = l.length
  · subst he
    have hk : l[l.length]? = none := List.getElem?_eq_none (Nat.le_refl _)
    rw [hk] at hq
    walk_at "rds"
    exact fini hq
  · have hlt : at_ < l.length := by have := h.le; omega
    have hk : l[at_]? = some l[at_] := List.getElem?_eq_getElem hlt
    rw [hk] at hq
    walk_at "rds"
    exact fini hq
def m_seen_of (K : PySem.W.Frag) : M := fun ds S Q E => ∃ c l len at_ op, ∃ ws : List Tx, ds = [.ref c, .tup (ws.map D.str)] ∧ Cu K c l len at_ op S ∧ Q (.str ((ws.find? (seesW l at_)).getD [])) S
theorem d_Cursor_seen_of (Z : Zf P w K mg base) : Me P w K mg base 3 (CuC K) "seen_of" ["self", "words"] (m_seen_of K) := by
  obtain ⟨fd, F, hb⟩ := Z.F_Cursor_seen_of
  refine ⟨⟨_, fd, df_of (k := 2) F sc_Cursor_seen_of (fun cdv A outer s H E F0 E' B => (dss_cons (ds_for (passes_of rfl) rfl (di_tup (dv 1)) (dg_name 2 nd_Cursor_seen_of) (dss_one (ds_if (dt_val (de_me (dv 0) (d_Cursor_sees Z) (B.mono (by omega)) (da_cons (dv 2) da_nil))) (dss_one (ds_ret (dv 2))) dss_nil)))
    (dss_one (ds_ret de_str)))) ?_, Z.m_Cursor_seen_of, hb⟩, Z.c_Cursor⟩
  rintro ds S Q E hl ⟨c, l, len, at_, op, ws, rfl, h, hq⟩
  rw [show startD N_Cursor_seen_of [.ref c, .tup (ws.map D.str)] = [some (.ref c), some (.tup (ws.map D.str)), none] from rfl]
  clear hl
  have ho := h.o
  walk_at "rds"
  refine for_ind (fun ds ρ S' => ∃ (vs : List Tx) (x : Option D), ds = vs.map D.str ∧ ρ = [some (.ref c), some (.tup (ws.map D.str)), x] ∧ S' = S ∧ Q (.str ((vs.find? (seesW l at_)).getD [])) S) ?_ ?_ _ _ _ ⟨ws, none, rfl, rfl, rfl, hq⟩
  · rintro ρ S' ⟨vs, x, e1, rfl, rfl, hq⟩
    have e2 : vs = [] := List.map_eq_nil_iff.mp e1.symm
    subst e2
    walk_at "rds"
    exact fini hq
  · rintro d ds ρ S' W hW ⟨vs, x, e1, rfl, rfl, hq⟩
    obtain ⟨v, vs, rfl, e2, e3⟩ : ∃ v vs', vs = v :: vs' ∧ d = .str v ∧ ds = vs'.map D.str := by
      cases vs with
      | nil => cases e1
      | cons v vs =>
        rw [List.map_cons] at e1
        injection e1 with e1 e2
        exact ⟨v, vs, rfl, e1, e2⟩
    subst e2 e3
    clear e1
    walk_at "rds"
    refine ⟨c, l, len, at_, op, v, rfl, h, ?_⟩
    rw [List.find?_cons] at hq
    cases hs : seesW l at_ v with
    | true =>
      rw [hs] at hq
      exact ⟨true, rfl, fini hq⟩
    | false =>
      rw [hs] at hq
      exact ⟨false, rfl, hW _ _ ⟨vs, _, rfl, rfl, rfl, hq⟩⟩
/-- take() -/
def takeR (l : List Tok) (len at_ op : Nat) : Except Nat (D × Nat × Nat) := match l[at_]? with
  | some k => if at_ = 200 then .error (posOf l len at_) else .ok (.str k.2.1, at_ + 1, op)
  | none => .error (posOf l len at_)
def m_take (K : PySem.W.Frag) : M := fun ds S Q E => ∃ c l len at_ op, ds = [.ref c] ∧ Cu K c l len at_ op S ∧ Res K c l len S Q E (takeR l len at_ op)
theorem d_Cursor_take (Z : Zf P w K mg base) : Me P w K mg base 4 (CuC K) "take" ["self"] (m_take K) := by
  obtain ⟨fd, F, hb⟩ := Z.F_Cursor_take
  refine ⟨⟨_, fd, df_of (k := 3) F sc_Cursor_take (fun cdv A outer s H E F0 E' B => (dss_cons (ds_if (PW.pt (dw_or (dt_val (de_me0 (dv 0) (d_Cursor_at_end Z) (B.mono (by omega)))) (dw_or1 (dt_cmp (od_eq B.units) (de_fldK K rfl (dv 0)) (de_gint Z.i_MOST_TOKENS rfl) rfl)))) (dss_one (ds_expr (de_me0 (dv 0) (d_Cursor_refuse Z) (B.mono (by omega))))) dss_nil)
    (dss_cons (ds_augFK K rfl (dv 0) de_int in_add rd_add)
    (dss_one (ds_ret (de_ix (de_ix (de_fldK K rfl (dv 0)) (de_op od_sub (de_fldK K rfl (dv 0)) de_int)) de_int)))))) ?_, Z.m_Cursor_take, hb⟩, Z.c_Cursor⟩
  rintro ds S Q E hl ⟨c, l, len, at_, op, rfl, h, hq⟩
  rw [show startD N_Cursor_take [.ref c] = [some (.ref c)] from rfl]
  clear hl
  have ho := h.o
  have p1 := pl_at Z
  have p2 := pl_tokens Z
  walk_at "rds"
  refine ⟨c, l, len, at_, op, rfl, h, ?_⟩
  unfold takeR at hq
  by_cases he : at_ = l.length
  · subst he
    have hk : l[l.length]? = none := List.getElem?_eq_none (Nat.le_refl _)
    rw [hk] at hq
    walk_at "rds"
    exact ⟨c, l, len, _, op, rfl, h, hq S fun _ _ => rfl⟩
  · have hlt : at_ < l.length := by have := h.le; omega
    have hk : l[at_]? = some l[at_] := List.getElem?_eq_getElem hlt
    rw [hk] at hq
    dsimp only at hq
    walk_at "rds"
    by_cases h2 : at_ = 200
    · rw [if_pos h2] at hq ⊢
      exact ⟨c, l, len, at_, op, rfl, h, hq S fun _ _ => rfl⟩
    · rw [if_neg h2] at hq ⊢
      exact fini hq
end K63
namespace K63
open PySem PySem.Spec L2 DL
local macro_rules | `(tactic| walk_at "rds") => `(tactic| simp only [tdSeq, tdAsg, tdV, gdName, tdAnd, tdOr, tdNot, tdB, tdOp, tdCB, tdCons, tdNil, tdC, tdAug, tdSl, tdP, tdRet, tdTup, tdIf, tdIfS, gOrd, gI0, gI, gLen, gIx, gAdd, gInt, vw, ixP, gSl, tdDrop, tdRetN, tdNext, gIn_sc, gIn_ts, gIn_ls, gIn_t2, gIn_l2, gIn_l4, tdApp, sl_0, sl_1, sl_2, sl_3, sl_4, sl_5, ff, tt', true_and, id,
  gEq, eqS, tdFor, tdiT, tdiL, forR, tdRaise, tdCall, tdNotV, tdAndV, tdOrV, tdBox, tdZ, gdTup, gdCons, gdNil, tdBreak, tdCont, tdYes, icast, icast1, icast2, icast3, tdLst, gIn_l4, icastL, icastE, icastZ, ln_0, ln_1, ln_2, ln_3,
  List.getElem?_cons_zero, List.getElem?_cons_succ, List.set_cons_zero, List.set_cons_succ, Option.some.injEq, exists_eq_left', exists_eq_left, D.bl.injEq, decide_eq_true_eq,
  tdFldC, tdMeth, tdMake, tdPutF, tdAugF, D.ref.injEq, DO.ins.injEq, and_assoc, icE12, icE200, icS1, DL.gSub, D.int.injEq, D.str.injEq, sup_same, curF_len, eq_self, not_true_eq_false, not_false_eq_true, Bool.false_eq_true, Bool.not_eq_true, decide_not, atIn, atI_0, atI_1, atI_2, List.getElem?_map, Option.map_some, Option.map_none, tokD, decide_true, decide_false, Bool.not_true, Bool.not_false, if_true, if_false, lm_0, lm_1, lm_2, List.length_map, exists_and_left, lk_tokens, lk_length, lk_at, lk_opened, lm_at_end, lm_position, lm_refuse, lm_sees, lm_sees_kind, lm_take, lm_take_kind, lm_accept, lm_expect, lm_seen_of, lm_enter, lm_close, pu_at, pu_opened, *])
variable {P : Program} {w : World} {K : PySem.W.Frag} {mg : Str → Option Value} {base : Heap}
theorem takeR_ok {l : List Tok} {len at_ op a o : Nat} {d : D} (h : takeR l len at_ op = .ok (d, a, o)) : at_ < l.length ∧ at_ ≠ 200 ∧ a = at_ + 1 ∧ o = op ∧ ∃ k, l[at_]? = some k ∧ d = .str k.2.1 := by
  unfold takeR at h
  cases hk : l[at_]? with
  | none => rw [hk] at h; cases h
  | some k =>
    rw [hk] at h
    dsimp only at h
    split at h
    · cases h
    · injection h with h; injection h with h1 h; injection h with h2 h3
      exact ⟨(List.getElem?_eq_some_iff.mp hk).1, by assumption, h2.symm, h3.symm, k, rfl, h1.symm⟩
theorem Cu.to {c : Addr} {l : List Tok} {len at_ op a o : Nat} {S : Store} (h : Cu K c l len at_ op S) (ha : a ≤ l.length) : Cu K c l len a o (sup S c (curO K l len a o)) := ⟨sup_same, ha, h.sz, h.ln, h.ps⟩
theorem Res.imp {c : Addr} {l : List Tok} {len : Nat} {S : Store} {Q Q' : D → Store → Prop} {E : XD} {r : Except Nat (D × Nat × Nat)} (h : Res K c l len S Q E r) (i : ∀ d a o, r = .ok (d, a, o) → Q d (sup S c (curO K l len a o)) → Q' d (sup S c (curO K l len a o))) : Res K c l len S Q' E r := by
  cases r with
  | error p => exact h
  | ok r => exact i _ _ _ rfl h
/-- a step, then what follows it -/
def thenR (r : Except Nat (D × Nat × Nat)) (f : D → Nat → Nat → Except Nat (D × Nat × Nat)) : Except Nat (D × Nat × Nat) := match r with
  | .error p => .error p
  | .ok (d, a, o) => f d a o
theorem Res.then {c : Addr} {l : List Tok} {len : Nat} {S : Store} {Q Q' : D → Store → Prop} {E : XD} {r : Except Nat (D × Nat × Nat)} {f : D → Nat → Nat → Except Nat (D × Nat × Nat)} (h : Res K c l len S Q E (thenR r f))
    (i : ∀ d a o, r = .ok (d, a, o) → Res K c l len (sup S c (curO K l len a o)) Q E (f d a o) → Q' d (sup S c (curO K l len a o))) : Res K c l len S Q' E r := by
  cases r with
  | error p => exact h
  | ok r =>
    obtain ⟨d, a, o⟩ := r
    refine i d a o rfl ?_
    unfold thenR at h
    dsimp only at h
    cases hf : f d a o with
    | error p =>
      rw [hf] at h
      exact fun S' hs => h S' fun b hb => (hs b hb).trans (sup_ne hb)
    | ok r =>
      obtain ⟨d2, a2, o2⟩ := r
      rw [hf] at h
      show Q d2 (sup (sup S c _) c _)
      rw [sup_sup]
      exact h
/-- nothing taken -/
theorem Res.here {c : Addr} {l : List Tok} {len at_ op : Nat} {S : Store} {Q : D → Store → Prop} {E : XD} {d : D} (h : Cu K c l len at_ op S) (q : Res K c l len S Q E (.ok (d, at_, op))) : Q d S := by
  have q' : Q d (sup S c (curO K l len at_ op)) := q
  rw [sup_id h.o] at q'
  exact q'
def takeKindR (l : List Tok) (len at_ op : Nat) (x : Tx) : Except Nat (D × Nat × Nat) := if kindW l at_ x = true then takeR l len at_ op else .error (posOf l len at_)
def acceptR (l : List Tok) (len at_ op : Nat) (x : Tx) : Except Nat (D × Nat × Nat) := if seesW l at_ x = true then thenR (takeR l len at_ op) (fun _ a o => .ok (.bl true, a, o)) else .ok (.bl false, at_, op)
def expectR (l : List Tok) (len at_ op : Nat) (x : Tx) : Except Nat (D × Nat × Nat) := if seesW l at_ x = true then thenR (takeR l len at_ op) (fun _ a o => .ok (.non, a, o)) else .error (posOf l len at_)
def m_take_kind (K : PySem.W.Frag) : M := fun ds S Q E => ∃ c l len at_ op x, ds = [.ref c, .str x] ∧ Cu K c l len at_ op S ∧ Res K c l len S Q E (takeKindR l len at_ op x)
theorem d_Cursor_take_kind (Z : Zf P w K mg base) : Me P w K mg base 5 (CuC K) "take_kind" ["self", "kind"] (m_take_kind K) := by
  obtain ⟨fd, F, hb⟩ := Z.F_Cursor_take_kind
  refine ⟨⟨_, fd, df_of (k := 4) F sc_Cursor_take_kind (fun cdv A outer s H E F0 E' B => (dss_cons (ds_if (dt_not (dt_val (de_me (dv 0) (d_Cursor_sees_kind Z) (B.mono (by omega)) (da_cons (dv 1) da_nil)))) (dss_one (ds_expr (de_me0 (dv 0) (d_Cursor_refuse Z) (B.mono (by omega))))) dss_nil)
    (dss_one (ds_ret (de_me0 (dv 0) (d_Cursor_take Z) (B.mono (by omega))))))) ?_, Z.m_Cursor_take_kind, hb⟩, Z.c_Cursor⟩
  rintro ds S Q E hl ⟨c, l, len, at_, op, x, rfl, h, hq⟩
  rw [show startD N_Cursor_take_kind [.ref c, .str x] = [some (.ref c), some (.str x)] from rfl]
  clear hl
  have ho := h.o
  walk_at "rds"
  unfold takeKindR at hq
  refine ⟨c, l, len, at_, op, x, rfl, h, ?_⟩
  cases hs : kindW l at_ x with
  | false =>
    rw [hs] at hq
    refine ⟨false, rfl, ?_⟩
    walk_at "rds"
    exact ⟨c, l, len, at_, op, rfl, h, hq S fun _ _ => rfl⟩
  | true =>
    rw [hs] at hq
    refine ⟨true, rfl, ?_⟩
    walk_at "rds"
    exact ⟨c, l, len, at_, op, rfl, h, Res.imp hq fun d a o _ q => fini q⟩
def m_accept (K : PySem.W.Frag) : M := fun ds S Q E => ∃ c l len at_ op x, ds = [.ref c, .str x] ∧ Cu K c l len at_ op S ∧ Res K c l len S Q E (acceptR l len at_ op x)
theorem d_Cursor_accept (Z : Zf P w K mg base) : Me P w K mg base 5 (CuC K) "accept" ["self", "word"] (m_accept K) := by
  obtain ⟨fd, F, hb⟩ := Z.F_Cursor_accept
  refine ⟨⟨_, fd, df_of (k := 4) F sc_Cursor_accept (fun cdv A outer s H E F0 E' B => (dss_cons (ds_if (dt_not (dt_val (de_me (dv 0) (d_Cursor_sees Z) (B.mono (by omega)) (da_cons (dv 1) da_nil)))) (dss_one (ds_ret de_bl)) dss_nil)
    (dss_cons (ds_expr (de_me0 (dv 0) (d_Cursor_take Z) (B.mono (by omega))))
    (dss_one (ds_ret de_bl))))) ?_, Z.m_Cursor_accept, hb⟩, Z.c_Cursor⟩
  rintro ds S Q E hl ⟨c, l, len, at_, op, x, rfl, h, hq⟩
  rw [show startD N_Cursor_accept [.ref c, .str x] = [some (.ref c), some (.str x)] from rfl]
  clear hl
  have ho := h.o
  walk_at "rds"
  unfold acceptR at hq
  refine ⟨c, l, len, at_, op, x, rfl, h, ?_⟩
  cases hs : seesW l at_ x with
  | false =>
    rw [hs] at hq
    refine ⟨false, rfl, ?_⟩
    walk_at "rds"
    exact fini (Res.here h hq)
  | true =>
    rw [hs] at hq
    refine ⟨true, rfl, ?_⟩
    walk_at "rds"
    refine ⟨c, l, len, at_, op, rfl, h, Res.then hq fun d a o e q => ?_⟩
    exact fini (Res.here (h.to (by have := takeR_ok e; omega)) q)
def m_expect (K : PySem.W.Frag) : M := fun ds S Q E => ∃ c l len at_ op x, ds = [.ref c, .str x] ∧ Cu K c l len at_ op S ∧ Res K c l len S Q E (expectR l len at_ op x)
theorem d_Cursor_expect (Z : Zf P w K mg base) : Me P w K mg base 6 (CuC K) "expect" ["self", "word"] (m_expect K) := by
  obtain ⟨fd, F, hb⟩ := Z.F_Cursor_expect
  refine ⟨⟨_, fd, df_of (k := 5) F sc_Cursor_expect (fun cdv A outer s H E F0 E' B => (dss_one (ds_if (dt_not (dt_val (de_me (dv 0) (d_Cursor_accept Z) (B.mono (by omega)) (da_cons (dv 1) da_nil)))) (dss_one (ds_expr (de_me0 (dv 0) (d_Cursor_refuse Z) (B.mono (by omega))))) dss_nil))) ?_, Z.m_Cursor_expect, hb⟩, Z.c_Cursor⟩
  rintro ds S Q E hl ⟨c, l, len, at_, op, x, rfl, h, hq⟩
  rw [show startD N_Cursor_expect [.ref c, .str x] = [some (.ref c), some (.str x)] from rfl]
  clear hl
  have ho := h.o
  walk_at "rds"
  unfold expectR at hq
  refine ⟨c, l, len, at_, op, x, rfl, h, ?_⟩
  unfold acceptR
  cases hs : seesW l at_ x with
  | false =>
    rw [hs] at hq
    show ∃ k, D.bl false = D.bl k ∧ _
    refine ⟨false, rfl, ?_⟩
    rw [sup_id h.o]
    walk_at "rds"
    exact ⟨c, l, len, at_, op, rfl, h, hq S fun _ _ => rfl⟩
  | true =>
    rw [hs] at hq
    rw [if_pos rfl] at hq ⊢
    cases ht : takeR l len at_ op with
    | error p =>
      rw [ht] at hq
      exact hq
    | ok r =>
      rw [ht] at hq
      exact ⟨true, rfl, fini hq⟩
theorem expectR_ok {l : List Tok} {len at_ op a o : Nat} {d : D} {x : Tx} (h : expectR l len at_ op x = .ok (d, a, o)) : at_ < l.length ∧ at_ ≠ 200 ∧ a = at_ + 1 ∧ o = op ∧ d = .non := by
  unfold expectR at h
  split at h
  · cases ht : takeR l len at_ op with
    | error p => rw [ht] at h; cases h
    | ok r =>
      obtain ⟨d2, a2, o2⟩ := r
      rw [ht] at h
      obtain ⟨h1, h2, h3, h4, _⟩ := takeR_ok ht
      cases h
      exact ⟨h1, h2, h3, h4, rfl⟩
  · cases h
def enterR (l : List Tok) (len at_ op : Nat) (x : Tx) : Except Nat (D × Nat × Nat) := if op = 12 then .error (posOf l len at_) else thenR (expectR l len at_ op x) fun _ a o => .ok (.non, a, o + 1)
def closeR (l : List Tok) (len at_ op : Nat) (x : Tx) : Except Nat (D × Nat × Nat) := thenR (expectR l len at_ op x) fun _ a o => .ok (.non, a, o - 1)
def m_enter (K : PySem.W.Frag) : M := fun ds S Q E => ∃ c l len at_ op x, ds = [.ref c, .str x] ∧ Cu K c l len at_ op S ∧ Res K c l len S Q E (enterR l len at_ op x)
theorem d_Cursor_enter (Z : Zf P w K mg base) : Me P w K mg base 7 (CuC K) "enter" ["self", "word"] (m_enter K) := by
  obtain ⟨fd, F, hb⟩ := Z.F_Cursor_enter
  refine ⟨⟨_, fd, df_of (k := 6) F sc_Cursor_enter (fun cdv A outer s H E F0 E' B => (dss_cons (ds_if (dt_cmp (od_eq B.units) (de_fldK K rfl (dv 0)) (de_gint Z.i_MOST_OPEN rfl) rfl) (dss_one (ds_expr (de_me0 (dv 0) (d_Cursor_refuse Z) (B.mono (by omega))))) dss_nil)
    (dss_cons (ds_expr (de_me (dv 0) (d_Cursor_expect Z) (B.mono (by omega)) (da_cons (dv 1) da_nil)))
    (dss_one (ds_augFK K rfl (dv 0) de_int in_add rd_add))))) ?_, Z.m_Cursor_enter, hb⟩, Z.c_Cursor⟩
  rintro ds S Q E hl ⟨c, l, len, at_, op, x, rfl, h, hq⟩
  rw [show startD N_Cursor_enter [.ref c, .str x] = [some (.ref c), some (.str x)] from rfl]
  clear hl
  have ho := h.o
  have p1 := pl_opened Z
  walk_at "rds"
  unfold enterR at hq
  by_cases h12 : op = 12
  · rw [if_pos h12] at hq ⊢
    exact ⟨c, l, len, at_, op, rfl, h, hq S fun _ _ => rfl⟩
  · rw [if_neg h12] at hq ⊢
    refine ⟨c, l, len, at_, op, x, rfl, h, Res.then hq fun d a o e q => ?_⟩
    have h' := h.to (a := a) (o := o) (by have := expectR_ok e; omega)
    have ho' := h'.o
    walk_at "rds"
    exact fini q
def m_close (K : PySem.W.Frag) : M := fun ds S Q E => ∃ c l len at_ op x, ds = [.ref c, .str x] ∧ Cu K c l len at_ op S ∧ 1 ≤ op ∧ Res K c l len S Q E (closeR l len at_ op x)
theorem d_Cursor_close (Z : Zf P w K mg base) : Me P w K mg base 7 (CuC K) "close" ["self", "word"] (m_close K) := by
  obtain ⟨fd, F, hb⟩ := Z.F_Cursor_close
  refine ⟨⟨_, fd, df_of (k := 6) F sc_Cursor_close (fun cdv A outer s H E F0 E' B => (dss_cons (ds_expr (de_me (dv 0) (d_Cursor_expect Z) (B.mono (by omega)) (da_cons (dv 1) da_nil)))
    (dss_one (ds_augFK K rfl (dv 0) de_int in_sub rd_sub)))) ?_, Z.m_Cursor_close, hb⟩, Z.c_Cursor⟩
  rintro ds S Q E hl ⟨c, l, len, at_, op, x, rfl, h, h1, hq⟩
  rw [show startD N_Cursor_close [.ref c, .str x] = [some (.ref c), some (.str x)] from rfl]
  clear hl
  have ho := h.o
  have p1 := pl_opened Z
  walk_at "rds"
  unfold closeR at hq
  refine ⟨c, l, len, at_, op, x, rfl, h, Res.then hq fun d a o e q => ?_⟩
  have h' := h.to (a := a) (o := o) (by have := expectR_ok e; omega)
  have ho' := h'.o
  walk_at "rds"
  have h2 := expectR_ok e
  rw [show (o : Int) - 1 = ((o - 1 : Nat) : Int) by omega]
  exact fini q
theorem tkz_ok {t : Tx} : ∀ {n s : Nat} {l : List Tok}, tkz t n s = .ok l → (∀ k ∈ l, s ≤ k.2.2 ∧ k.2.2 < t.length) ∧ l.length ≤ n
  | 0, s, l, h => by
    cases h
    exact ⟨fun _ z => (nomatch z), Nat.le_refl _⟩
  | n + 1, s, l, h => by
    unfold tkz at h
    by_cases hs : s < t.length
    · rw [List.getElem?_eq_getElem hs] at h
      dsimp only at h
      split at h
      · obtain ⟨h1, h2⟩ := tkz_ok h
        exact ⟨fun k hk => by have := h1 k hk; omega, by omega⟩
      · split at h
        · cases h
        · rename_i k v e hk
          split at h
          · cases h
          · rename_i l2 hr
            cases h
            obtain ⟨h1, h2⟩ := tkz_ok hr
            obtain ⟨h3, h4⟩ := tokAt_lt hk
            refine ⟨fun k hk => ?_, by simp; exact h2⟩
            rcases List.mem_cons.mp hk with z | z
            · rw [z]; exact ⟨Nat.le_refl _, hs⟩
            · have := h1 k z; omega
    · rw [List.getElem?_eq_none (by omega)] at h
      cases h
      exact ⟨fun _ z => (nomatch z), Nat.zero_le _⟩
theorem toks_ok {t : Tx} {l : List Tok} (h : toks t = .ok l) : (∀ k ∈ l, k.2.2 < t.length) ∧ l.length ≤ t.length + 1 := by
  obtain ⟨h1, h2⟩ := tkz_ok h
  exact ⟨fun k hk => (h1 k hk).2, h2⟩
def m_Cursor_init (K : PySem.W.Frag) : M := fun ds S Q E => ∃ c t, ds = [.ref c, .str t] ∧ S c = some (.ins (CuC K) []) ∧ t.length ≤ 99000 ∧ match toks t with
  | .ok l => Q .non (sup S c (curO K l t.length 0 0))
  | .error p => ∀ S', Sub S S' → E (xpos K p) S'
theorem d_Cursor___init__ (Z : Zf P w K mg base) : Ma P w K mg base 5 "Cursor" (CuC K) ["self", "chunk"] (m_Cursor_init K) := by
  obtain ⟨fd, F, hb⟩ := Z.F_Cursor___init__
  refine ⟨_, fd, df_of (k := 4) F sc_Cursor___init__ (fun cdv A outer s H E F0 E' B => (dss_cons (ds_putFK K rfl (dv 0) (de_ca (d_tokenize Z) (B.mono (by omega)) rfl (da_cons (dv 1) da_nil)))
    (dss_cons (ds_putFK K rfl (dv 0) (de_cB oc_len rfl Z.f_len bb_len (da_cons (dv 1) da_nil)))
    (dss_cons (ds_putFK K rfl (dv 0) de_int)
    (dss_one (ds_putFK K rfl (dv 0) de_int)))))) ?_, Z.k_Cursor, Z.g_Cursor, hb⟩
  rintro ds S Q E hl ⟨c, t, rfl, ho, ht, hq⟩
  rw [show startD N_Cursor___init__ [.ref c, .str t] = [some (.ref c), some (.str t)] from rfl]
  clear hl
  have p1 := pl_at Z
  have p2 := pl_tokens Z
  have p3 := pl_length Z
  have p4 := pl_opened Z
  walk_at "rds"
  refine ⟨t, rfl, by omega, ?_⟩
  cases hk : toks t with
  | error p =>
    rw [hk] at hq
    exact hq
  | ok l =>
    rw [hk] at hq
    dsimp only at hq ⊢
    walk_at "rds"
    rw [sup_sup, sup_sup, sup_sup]
    exact ⟨show 0 < 1000 by omega, sz5 (by omega), show 1 < 1000 by omega, show 2 < 1000 by omega, show 3 < 1000 by omega, fini hq⟩
abbrev PaC (K : PySem.W.Frag) : Addr := He.ga K "Parser"
abbrev paO (K : PySem.W.Frag) (c : Addr) : DO := .ins (PaC K) [("cursor", .ref c)]
theorem pl_cursor (Z : Zf P w K mg base) : Plain K "cursor" (PaC K) = True := eq_true ⟨Z.c_Parser, Z.n_Parser_cursor⟩
theorem lk_cursor {c : Addr} : ([("cursor", .ref c)] : List (Str × D)).lookup ("cursor" : Str) = some (.ref c) := rfl
theorem lp_given {c : Addr} : ([("cursor", .ref c)] : List (Str × D)).lookup ("given" : Str) = none := rfl
theorem lp_same {c : Addr} : ([("cursor", .ref c)] : List (Str × D)).lookup ("same" : Str) = none := rfl
theorem lp_either {c : Addr} : ([("cursor", .ref c)] : List (Str × D)).lookup ("either" : Str) = none := rfl
theorem lp_both {c : Addr} : ([("cursor", .ref c)] : List (Str × D)).lookup ("both" : Str) = none := rfl
theorem lp_turned {c : Addr} : ([("cursor", .ref c)] : List (Str × D)).lookup ("turned" : Str) = none := rfl
theorem lp_part {c : Addr} : ([("cursor", .ref c)] : List (Str × D)).lookup ("part" : Str) = none := rfl
theorem lp_definition {c : Addr} : ([("cursor", .ref c)] : List (Str × D)).lookup ("definition" : Str) = none := rfl
def m_Parser_init (K : PySem.W.Frag) : M := fun ds S Q E => ∃ p t, ds = [.ref p, .str t] ∧ S p = some (.ins (PaC K) []) ∧ t.length ≤ 99000 ∧ match toks t with
  | .ok l => ∀ c, S c = none → Q .non (sup (sup S c (curO K l t.length 0 0)) p (paO K c))
  | .error i => ∀ S', Sub S S' → E (xpos K i) S'
theorem d_Parser___init__ (Z : Zf P w K mg base) : Ma P w K mg base 7 "Parser" (PaC K) ["self", "chunk"] (m_Parser_init K) := by
  obtain ⟨fd, F, hb⟩ := Z.F_Parser___init__
  refine ⟨_, fd, df_of (k := 6) F sc_Parser___init__ (fun cdv A outer s H E F0 E' B => (dss_one (ds_putFK K rfl (dv 0) (de_ma (d_Cursor___init__ Z) (B.mono (by omega)) rfl (da_cons (dv 1) da_nil))))) ?_, Z.k_Parser, Z.g_Parser, hb⟩
  rintro ds S Q E hl ⟨p, t, rfl, ho, ht, hq⟩
  rw [show startD N_Parser___init__ [.ref p, .str t] = [some (.ref p), some (.str t)] from rfl]
  clear hl
  have p1 := pl_cursor Z
  walk_at "rds"
  intro c hc
  refine ⟨c, t, rfl, sup_same, ht, ?_⟩
  have hpc : p ≠ c := fun z => by rw [z, hc] at ho; cases ho
  cases hk : toks t with
  | error p =>
    rw [hk] at hq
    exact fun S' hs => hq S' (Sub.trans (Sub.sup hc) hs)
  | ok l =>
    rw [hk] at hq
    dsimp only at hq ⊢
    refine ⟨rfl, ?_⟩
    have hn : sup (sup S c (.ins (CuC K) [])) c (curO K l t.length 0 0) p = some (.ins (PaC K) []) := by rw [sup_sup, sup_ne hpc]; exact ho
    refine ⟨_, _, hn, of_eq_true p1, show 0 < 1000 by omega, fini ?_⟩
    rw [sup_sup]
    exact hq c hc
end K63
namespace K63
open PySem PySem.Spec L2 DL
inductive Fm where
  | same | given | or | and
def Fm.t : Fm → Tx
  | .same => tx "same"
  | .given => tx "given"
  | .or => tx "or"
  | .and => tx "and"
inductive Cl where
  | word (x : Tx)
  | non
  | not (a : Cl)
  | bin (f : Fm) (a b : Cl)
def clD : Cl → D
  | .word x => .tup [.str (tx "word"), .str x]
  | .non => .tup [.str (tx "none")]
  | .not a => .tup [.str (tx "not"), clD a]
  | .bin f a b => .tup [.str f.t, clD a, clD b]
def depth : Cl → Nat
  | .word _ => 1
  | .non => 1
  | .not a => 1 + depth a
  | .bin _ a b => 1 + max (depth a) (depth b)
abbrev Rd := Option (Except Nat (Cl × Nat × Nat))
def step (r : Except Nat (D × Nat × Nat)) (f : D → Nat → Nat → Rd) : Rd := match r with
  | .error p => some (.error p)
  | .ok (d, a, o) => f d a o
def bindR (r : Rd) (f : Cl → Nat → Nat → Rd) : Rd := match r with
  | none => none
  | some (.error p) => some (.error p)
  | some (.ok (c, a, o)) => f c a o
section
variable (l : List Tok) (len : Nat)
def loopR (sub : Nat → Nat → Rd) (mark : Tx) (form : Fm) : Nat → Cl → Nat → Nat → Rd
  | 0, _, _, _ => none
  | n + 1, c, a, o => if seesW l a mark = true then step (takeR l len a o) fun _ a1 o1 => bindR (sub a1 o1) fun b a2 o2 => loopR sub mark form n (.bin form c b) a2 o2 else some (.ok (c, a, o))
/-- what a turned part reads, by what the parts of it read -/
def line5 (r5 r1 : Nat → Nat → Rd) (a o : Nat) : Rd :=
  if seesW l a (tx "~") = true then step (takeR l len a o) fun _ a o => bindR (r5 a o) fun c a o => some (.ok (.not c, a, o))
  else if kindW l a (tx "name") = true then step (takeR l len a o) fun d a o => (match d with
    | .str x => some (.ok (.word x, a, o))
    | _ => none)
  else if seesW l a (tx "none") = true then step (takeR l len a o) fun _ a o => some (.ok (.non, a, o))
  else if seesW l a (tx "(") = true then (if o = 12 then some (.error (posOf l len a)) else step (takeR l len a o) fun _ a o => bindR (r1 a (o + 1)) fun c a o =>
    if seesW l a (tx ")") = true then step (takeR l len a o) fun _ a o => some (.ok (c, a, o - 1)) else some (.error (posOf l len a)))
  else some (.error (posOf l len a))
/-- what a line of the grammar reads -/
def rd : Nat → Nat → Nat → Nat → Rd
  | 0, _, _, _ => none
  | n + 1, 1, a, o => bindR (rd n 2 a o) fun c a o => if seesW l a (tx "<->") = true then step (takeR l len a o) fun _ a o => bindR (rd n 2 a o) fun b a o => some (.ok (.bin .same c b, a, o)) else some (.ok (c, a, o))
  | n + 1, 2, a, o => bindR (rd n 3 a o) fun c a o => if seesW l a (tx "->") = true then step (takeR l len a o) fun _ a o => bindR (rd n 2 a o) fun b a o => some (.ok (.bin .given c b, a, o)) else some (.ok (c, a, o))
  | n + 1, 3, a, o => bindR (rd n 4 a o) fun c a o => loopR l len (rd n 4) (tx "|") .or 201 c a o
  | n + 1, 4, a, o => bindR (rd n 5 a o) fun c a o => loopR l len (rd n 5) (tx "&") .and 201 c a o
  | n + 1, _, a, o => line5 l len (rd n 5) (match n with
      | 0 => fun _ _ => none
      | m + 1 => rd m 1) a o
end
section
variable {l : List Tok} {len : Nat}
/-- what holds of a reading from a, o on -/
def Good (l : List Tok) (a o : Nat) (r : Rd) : Prop := ∀ c a' o', r = some (.ok (c, a', o')) → a < a' ∧ a' ≤ l.length ∧ a' ≤ 200 ∧ o' = o ∧ depth c ≤ a' - a
def under (l : List Tok) (len n : Nat) : Nat → Nat → Rd := match n with
  | 0 => fun _ _ => none
  | m + 1 => rd l len m 1
theorem rd_5 (n a o : Nat) : rd l len (n + 1) 5 a o = line5 l len (rd l len n 5) (under l len n) a o := by
  cases n <;> rfl
theorem bind_some (c : Cl) (a o : Nat) (f : Cl → Nat → Nat → Rd) : bindR (some (.ok (c, a, o))) f = f c a o := rfl
theorem rd_1 (n a o : Nat) : rd l len (n + 1) 1 a o = bindR (rd l len n 2 a o) fun c a o => if seesW l a (tx "<->") = true then step (takeR l len a o) fun _ a o => bindR (rd l len n 2 a o) fun b a o => some (.ok (.bin .same c b, a, o)) else some (.ok (c, a, o)) := rfl
theorem rd_2 (n a o : Nat) : rd l len (n + 1) 2 a o = bindR (rd l len n 3 a o) fun c a o => if seesW l a (tx "->") = true then step (takeR l len a o) fun _ a o => bindR (rd l len n 2 a o) fun b a o => some (.ok (.bin .given c b, a, o)) else some (.ok (c, a, o)) := rfl
theorem rd_3 (n a o : Nat) : rd l len (n + 1) 3 a o = bindR (rd l len n 4 a o) fun c a o => loopR l len (rd l len n 4) (tx "|") .or 201 c a o := rfl
theorem rd_4 (n a o : Nat) : rd l len (n + 1) 4 a o = bindR (rd l len n 5 a o) fun c a o => loopR l len (rd l len n 5) (tx "&") .and 201 c a o := rfl
theorem step_ok {a o : Nat} {f : D → Nat → Nat → Rd} {x : Cl × Nat × Nat} (h : step (takeR l len a o) f = some (.ok x)) : ∃ k, l[a]? = some k ∧ a < l.length ∧ a ≠ 200 ∧ f (.str k.2.1) (a + 1) o = some (.ok x) := by
  cases ht : takeR l len a o with
  | error p =>
    rw [ht] at h
    cases h
  | ok r =>
    obtain ⟨d, a1, o1⟩ := r
    rw [ht] at h
    obtain ⟨h1, h2, h3, h4, k, h5, h6⟩ := takeR_ok ht
    subst h3 h4 h6
    exact ⟨k, h5, h1, h2, h⟩
theorem bind_ok {r : Rd} {f : Cl → Nat → Nat → Rd} {x : Cl × Nat × Nat} (h : bindR r f = some (.ok x)) : ∃ c a o, r = some (.ok (c, a, o)) ∧ f c a o = some (.ok x) := by
  cases r with
  | none => cases h
  | some r =>
    cases r with
    | error p => cases h
    | ok r =>
      obtain ⟨c, a, o⟩ := r
      exact ⟨c, a, o, rfl, h⟩
theorem loop_good {sub : Nat → Nat → Rd} {mark : Tx} {form : Fm} (hs : ∀ a o, a ≤ 200 → Good l a o (sub a o)) : ∀ (n : Nat) (c : Cl) (a o a0 : Nat), a ≤ 200 → a ≤ l.length → a0 < a → depth c ≤ a - a0 → ∀ c' a' o', loopR l len sub mark form n c a o = some (.ok (c', a', o')) → a0 < a' ∧ a' ≤ l.length ∧ a' ≤ 200 ∧ o' = o ∧ depth c' ≤ a' - a0
  | 0, c, a, o, a0, h1, h2, h3, h4, c', a', o', h => by cases h
  | n + 1, c, a, o, a0, h1, h2, h3, h4, c', a', o', h => by
    unfold loopR at h
    split at h
    · obtain ⟨k, e1, e2, e3, e4⟩ := step_ok h
      obtain ⟨b, a2, o2, e5, e6⟩ := bind_ok e4
      obtain ⟨g1, g2, g3, g4, g5⟩ := hs _ _ (by omega) _ _ _ e5
      subst g4
      exact loop_good hs n (.bin form c b) a2 o2 a0 g3 g2 (by omega) (by show 1 + max _ _ ≤ _; omega) c' a' o' e6
    · cases h
      exact ⟨h3, h2, h1, rfl, h4⟩
theorem rd_good : ∀ (n line a o : Nat), 1 ≤ line → line ≤ 5 → a ≤ 200 → Good l a o (rd l len n line a o) := by
  intro n
  induction n using Nat.strongRecOn with
  | ind n ih =>
    intro line a o hl1 hl5 ha c' a' o' h
    match n, line, hl1, hl5, h with
    | 0, _, _, _, h => unfold rd at h; cases h
    | n + 1, 1, _, _, h =>
      rw [rd_1] at h
      obtain ⟨c, a1, o1, e1, e2⟩ := bind_ok h
      obtain ⟨g1, g2, g3, g4, g5⟩ := ih n (by omega) _ _ _ (by omega) (by omega) ha _ _ _ e1
      split at e2
      · obtain ⟨k, f1, f2, f3, f4⟩ := step_ok e2
        obtain ⟨b, a2, o2, f5, f6⟩ := bind_ok f4
        obtain ⟨k1, k2, k3, k4, k5⟩ := ih n (by omega) _ _ _ (by omega) (by omega) (by omega) _ _ _ f5
        cases f6
        exact ⟨by omega, k2, k3, by omega, by show 1 + max _ _ ≤ _; omega⟩
      · cases e2
        exact ⟨g1, g2, g3, g4, g5⟩
    | n + 1, 2, _, _, h =>
      rw [rd_2] at h
      obtain ⟨c, a1, o1, e1, e2⟩ := bind_ok h
      obtain ⟨g1, g2, g3, g4, g5⟩ := ih n (by omega) _ _ _ (by omega) (by omega) ha _ _ _ e1
      split at e2
      · obtain ⟨k, f1, f2, f3, f4⟩ := step_ok e2
        obtain ⟨b, a2, o2, f5, f6⟩ := bind_ok f4
        obtain ⟨k1, k2, k3, k4, k5⟩ := ih n (by omega) _ _ _ (by omega) (by omega) (by omega) _ _ _ f5
        cases f6
        exact ⟨by omega, k2, k3, by omega, by show 1 + max _ _ ≤ _; omega⟩
      · cases e2
        exact ⟨g1, g2, g3, g4, g5⟩
    | n + 1, 3, _, _, h =>
      rw [rd_3] at h
      obtain ⟨c, a1, o1, e1, e2⟩ := bind_ok h
      obtain ⟨g1, g2, g3, g4, g5⟩ := ih n (by omega) _ _ _ (by omega) (by omega) ha _ _ _ e1
      obtain ⟨k1, k2, k3, k4, k5⟩ := loop_good (fun a o h => ih n (by omega) 4 a o (by omega) (by omega) h) _ _ _ _ a g3 g2 g1 g5 _ _ _ e2
      exact ⟨k1, k2, k3, by omega, k5⟩
    | n + 1, 4, _, _, h =>
      rw [rd_4] at h
      obtain ⟨c, a1, o1, e1, e2⟩ := bind_ok h
      obtain ⟨g1, g2, g3, g4, g5⟩ := ih n (by omega) _ _ _ (by omega) (by omega) ha _ _ _ e1
      obtain ⟨k1, k2, k3, k4, k5⟩ := loop_good (fun a o h => ih n (by omega) 5 a o (by omega) (by omega) h) _ _ _ _ a g3 g2 g1 g5 _ _ _ e2
      exact ⟨k1, k2, k3, by omega, k5⟩
    | n + 1, 5, _, _, h =>
      rw [rd_5] at h
      unfold line5 at h
      split at h
      · obtain ⟨k, f1, f2, f3, f4⟩ := step_ok h
        obtain ⟨b, a2, o2, f5, f6⟩ := bind_ok f4
        obtain ⟨k1, k2, k3, k4, k5⟩ := ih n (by omega) _ _ _ (by omega) (by omega) (by omega) _ _ _ f5
        cases f6
        exact ⟨by omega, k2, k3, by omega, by show 1 + depth b ≤ _; omega⟩
      · split at h
        · obtain ⟨k, f1, f2, f3, f4⟩ := step_ok h
          cases f4
          exact ⟨by omega, by omega, by omega, rfl, by show 1 ≤ _; omega⟩
        · split at h
          · obtain ⟨k, f1, f2, f3, f4⟩ := step_ok h
            cases f4
            exact ⟨by omega, by omega, by omega, rfl, by show 1 ≤ _; omega⟩
          · split at h
            · split at h
              · cases h
              · obtain ⟨k, f1, f2, f3, f4⟩ := step_ok h
                cases n with
                | zero => cases f4
                | succ m =>
                  obtain ⟨b, a2, o2, f5, f6⟩ := bind_ok f4
                  obtain ⟨k1, k2, k3, k4, k5⟩ := ih m (by omega) _ _ _ (by omega) (by omega) (by omega) _ _ _ f5
                  split at f6
                  · obtain ⟨q, g1, g2, g3, g4⟩ := step_ok f6
                    cases g4
                    exact ⟨by omega, by omega, by omega, by omega, by omega⟩
                  · cases f6
            · cases h
theorem loop_total {sub : Nat → Nat → Rd} {mark : Tx} {form : Fm} (hg : ∀ a o, a ≤ 200 → Good l a o (sub a o)) (b o : Nat) (hs : ∀ a, b < a → a ≤ 200 → ∃ r, sub a o = some r) : ∀ (n : Nat) (c : Cl) (a : Nat), b ≤ a → a ≤ 200 → 200 < n + a → ∃ r, loopR l len sub mark form n c a o = some r
  | 0, c, a, h0, h1, h2 => by omega
  | n + 1, c, a, h0, h1, h2 => by
    unfold loopR
    split
    · cases ht : takeR l len a o with
      | error p => exact ⟨_, rfl⟩
      | ok r =>
        obtain ⟨d, a1, o1⟩ := r
        obtain ⟨e1, e2, e3, e4, _⟩ := takeR_ok ht
        subst e3 e4
        obtain ⟨r, hr⟩ := hs (a + 1) (by omega) (by omega)
        show ∃ r, bindR (sub (a + 1) o1) _ = some r
        rw [hr]
        cases r with
        | error p => exact ⟨_, rfl⟩
        | ok r =>
          obtain ⟨c2, a2, o2⟩ := r
          obtain ⟨g1, g2, g3, g4, g5⟩ := hg (a + 1) o1 (by omega) _ _ _ hr
          subst g4
          exact loop_total hg b o2 hs n _ a2 (by omega) g3 (by omega)
    · exact ⟨_, rfl⟩
/-- there are always turns enough -/
theorem rd_total : ∀ (n line a o : Nat), 1 ≤ line → line ≤ 5 → a ≤ 200 → o ≤ 12 → (200 - a) + 5 * (12 - o) + (6 - line) < n → ∃ r, rd l len n line a o = some r := by
  intro n
  induction n using Nat.strongRecOn with
  | ind n ih =>
    intro line a o hl1 hl5 ha ho hn
    match n, line, hl1, hl5, hn with
    | 0, _, _, _, h => omega
    | n + 1, 1, _, _, hn =>
      rw [rd_1]
      obtain ⟨r, hr⟩ := ih n (by omega) 2 a o (by omega) (by omega) ha ho (by omega)
      rw [hr]
      cases r with
      | error p => exact ⟨_, rfl⟩
      | ok r =>
        obtain ⟨c, a1, o1⟩ := r
        obtain ⟨g1, g2, g3, g4, g5⟩ := rd_good n 2 a o (by omega) (by omega) ha _ _ _ hr
        rw [bind_some]
        split
        · cases ht : takeR l len a1 o1 with
          | error p => exact ⟨_, rfl⟩
          | ok r =>
            obtain ⟨d, a2, o2⟩ := r
            obtain ⟨e1, e2, e3, e4, _⟩ := takeR_ok ht
            obtain ⟨r2, hr2⟩ := ih n (by omega) 2 a2 o2 (by omega) (by omega) (by omega) (by omega) (by omega)
            show ∃ r, bindR (rd l len n 2 a2 o2) _ = some r
            rw [hr2]
            cases r2 with
            | error p => exact ⟨_, rfl⟩
            | ok r2 => exact ⟨_, rfl⟩
        · exact ⟨_, rfl⟩
    | n + 1, 2, _, _, hn =>
      rw [rd_2]
      obtain ⟨r, hr⟩ := ih n (by omega) 3 a o (by omega) (by omega) ha ho (by omega)
      rw [hr]
      cases r with
      | error p => exact ⟨_, rfl⟩
      | ok r =>
        obtain ⟨c, a1, o1⟩ := r
        obtain ⟨g1, g2, g3, g4, g5⟩ := rd_good n 3 a o (by omega) (by omega) ha _ _ _ hr
        rw [bind_some]
        split
        · cases ht : takeR l len a1 o1 with
          | error p => exact ⟨_, rfl⟩
          | ok r =>
            obtain ⟨d, a2, o2⟩ := r
            obtain ⟨e1, e2, e3, e4, _⟩ := takeR_ok ht
            obtain ⟨r2, hr2⟩ := ih n (by omega) 2 a2 o2 (by omega) (by omega) (by omega) (by omega) (by omega)
            show ∃ r, bindR (rd l len n 2 a2 o2) _ = some r
            rw [hr2]
            cases r2 with
            | error p => exact ⟨_, rfl⟩
            | ok r2 => exact ⟨_, rfl⟩
        · exact ⟨_, rfl⟩
    | n + 1, 3, _, _, hn =>
      rw [rd_3]
      obtain ⟨r, hr⟩ := ih n (by omega) 4 a o (by omega) (by omega) ha ho (by omega)
      rw [hr]
      cases r with
      | error p => exact ⟨_, rfl⟩
      | ok r =>
        obtain ⟨c, a1, o1⟩ := r
        obtain ⟨g1, g2, g3, g4, g5⟩ := rd_good n 4 a o (by omega) (by omega) ha _ _ _ hr
        exact loop_total (fun a o h => rd_good n 4 a o (by omega) (by omega) h) a1 o1 (fun a2 h1 h2 => ih n (by omega) 4 a2 o1 (by omega) (by omega) h2 (by omega) (by omega)) 201 c a1 (Nat.le_refl _) g3 (by omega)
    | n + 1, 4, _, _, hn =>
      rw [rd_4]
      obtain ⟨r, hr⟩ := ih n (by omega) 5 a o (by omega) (by omega) ha ho (by omega)
      rw [hr]
      cases r with
      | error p => exact ⟨_, rfl⟩
      | ok r =>
        obtain ⟨c, a1, o1⟩ := r
        obtain ⟨g1, g2, g3, g4, g5⟩ := rd_good n 5 a o (by omega) (by omega) ha _ _ _ hr
        exact loop_total (fun a o h => rd_good n 5 a o (by omega) (by omega) h) a1 o1 (fun a2 h1 h2 => ih n (by omega) 5 a2 o1 (by omega) (by omega) h2 (by omega) (by omega)) 201 c a1 (Nat.le_refl _) g3 (by omega)
    | n + 1, 5, _, _, hn =>
      rw [rd_5]
      unfold line5
      split
      · cases ht : takeR l len a o with
        | error p => exact ⟨_, rfl⟩
        | ok r =>
          obtain ⟨d, a2, o2⟩ := r
          obtain ⟨e1, e2, e3, e4, _⟩ := takeR_ok ht
          obtain ⟨r2, hr2⟩ := ih n (by omega) 5 a2 o2 (by omega) (by omega) (by omega) (by omega) (by omega)
          show ∃ r, bindR (rd l len n 5 a2 o2) _ = some r
          rw [hr2]
          cases r2 with
          | error p => exact ⟨_, rfl⟩
          | ok r2 => exact ⟨_, rfl⟩
      · split
        · cases ht : takeR l len a o with
          | error p => exact ⟨_, rfl⟩
          | ok r =>
            obtain ⟨d, a2, o2⟩ := r
            obtain ⟨e1, e2, e3, e4, k, e5, e6⟩ := takeR_ok ht
            subst e6
            exact ⟨_, rfl⟩
        · split
          · cases ht : takeR l len a o with
            | error p => exact ⟨_, rfl⟩
            | ok r => exact ⟨_, rfl⟩
          · split
            · split
              · exact ⟨_, rfl⟩
              · cases ht : takeR l len a o with
                | error p => exact ⟨_, rfl⟩
                | ok r =>
                  obtain ⟨d, a2, o2⟩ := r
                  obtain ⟨e1, e2, e3, e4, _⟩ := takeR_ok ht
                  cases n with
                  | zero => omega
                  | succ m =>
                    obtain ⟨r2, hr2⟩ := ih m (by omega) 1 a2 (o2 + 1) (by omega) (by omega) (by omega) (by omega) (by omega)
                    show ∃ r, bindR (rd l len m 1 a2 (o2 + 1)) _ = some r
                    rw [hr2]
                    cases r2 with
                    | error p => exact ⟨_, rfl⟩
                    | ok r2 =>
                      obtain ⟨c3, a3, o3⟩ := r2
                      rw [bind_some]
                      split
                      · cases ht3 : takeR l len a3 o3 with
                        | error p => exact ⟨_, rfl⟩
                        | ok r => exact ⟨_, rfl⟩
                      · exact ⟨_, rfl⟩
            · exact ⟨_, rfl⟩
end
end K63
namespace K63
open PySem PySem.Spec L2 DL
local macro_rules | `(tactic| walk_at "rds") => `(tactic| simp only [tdSeq, tdAsg, tdV, gdName, tdAnd, tdOr, tdNot, tdB, tdOp, tdCB, tdCons, tdNil, tdC, tdAug, tdSl, tdP, tdRet, tdTup, tdIf, tdIfS, gOrd, gI0, gI, gLen, gIx, gAdd, gInt, vw, ixP, gSl, tdDrop, tdRetN, tdNext, gIn_sc, gIn_ts, gIn_ls, gIn_t2, gIn_l2, gIn_l4, tdApp, sl_0, sl_1, sl_2, sl_3, sl_4, sl_5, ff, tt', true_and, id,
  gEq, eqS, tdFor, tdiT, tdiL, tdiR, Option.getD_some, tdLc, lcR, gMax, tdNoP, forR, tdRaise, tdCall, tdNotV, tdAndV, tdOrV, tdBox, tdZ, gdTup, gdCons, gdNil, tdBreak, tdCont, tdYes, icast, icast1, icast2, icast3, tdLst, gIn_l4, icastL, icastE, icastZ, ln_0, ln_1, ln_2, ln_3,
  List.getElem?_cons_zero, List.getElem?_cons_succ, List.set_cons_zero, List.set_cons_succ, Option.some.injEq, exists_eq_left', exists_eq_left, D.bl.injEq, decide_eq_true_eq,
  tdFldC, tdMeth, tdMake, tdPutF, tdAugF, D.ref.injEq, DO.ins.injEq, and_assoc, lk_cursor, lp_given, lp_same, lp_either, lp_both, lp_turned, lp_part, lp_definition, icE12, icE200, icS1, DL.gSub, D.int.injEq, D.str.injEq, sup_same, curF_len, eq_self, not_true_eq_false, not_false_eq_true, Bool.false_eq_true, Bool.not_eq_true, decide_not, atIn, atI_0, atI_1, atI_2, List.getElem?_map, Option.map_some, Option.map_none, tokD, decide_true, decide_false, Bool.not_true, Bool.not_false, if_true, if_false, lm_0, lm_1, lm_2, List.length_map, exists_and_left, lk_tokens, lk_length, lk_at, lk_opened, lm_at_end, lm_position, lm_refuse, lm_sees, lm_sees_kind, lm_take, lm_take_kind, lm_accept, lm_expect, lm_seen_of, lm_enter, lm_close, pu_at, pu_opened, *])
variable {P : Program} {w : World} {K : PySem.W.Frag} {mg : Str → Option Value} {base : Heap}
def resD : Except Nat (Cl × Nat × Nat) → Except Nat (D × Nat × Nat)
  | .error p => .error p
  | .ok (c, a, o) => .ok (clD c, a, o)
/-- the parser at p with its cursor at c -/
structure PC (K : PySem.W.Frag) (p c : Addr) (l : List Tok) (len at_ op : Nat) (S : Store) : Prop where
  po : S p = some (paO K c)
  cu : Cu K c l len at_ op S
  le : at_ ≤ 200
section
variable {p c : Addr} {l : List Tok} {len at_ op : Nat} {S : Store} {Q Q' : D → Store → Prop} {E : XD}
theorem PC.ne (h : PC K p c l len at_ op S) : p ≠ c := fun z => by
  have h1 := h.po
  rw [z, h.cu.o] at h1
  injection h1 with h1
  injection h1 with h1 h2
  cases h2
theorem PC.to (h : PC K p c l len at_ op S) {a o : Nat} (ha : a ≤ l.length) (h2 : a ≤ 200) : PC K p c l len a o (sup S c (curO K l len a o)) := ⟨by rw [sup_ne h.ne]; exact h.po, h.cu.to ha, h2⟩
theorem Res.move {a o : Nat} {r : Except Nat (D × Nat × Nat)} (h : Res K c l len S Q E r) : Res K c l len (sup S c (curO K l len a o)) Q E r := by
  cases r with
  | error p => exact fun S' hs => h S' fun b hb => (hs b hb).trans (sup_ne hb)
  | ok r =>
    obtain ⟨d2, a2, o2⟩ := r
    show Q d2 (sup (sup S c _) c _)
    rw [sup_sup]
    exact h
theorem Res.bind {r1 r : Except Nat (Cl × Nat × Nat)} {f : Cl → Nat → Nat → Rd} (hb : bindR (some r1) f = some r) (hq : Res K c l len S Q E (resD r))
    (i : ∀ c1 a1 o1, r1 = .ok (c1, a1, o1) → f c1 a1 o1 = some r → Res K c l len (sup S c (curO K l len a1 o1)) Q E (resD r) → Q' (clD c1) (sup S c (curO K l len a1 o1))) : Res K c l len S Q' E (resD r1) := by
  cases r1 with
  | error p =>
    injection hb with hb
    subst hb
    exact hq
  | ok r1 =>
    obtain ⟨c1, a1, o1⟩ := r1
    exact i c1 a1 o1 rfl hb hq.move
theorem Res.step {a o : Nat} {r : Except Nat (Cl × Nat × Nat)} {f : D → Nat → Nat → Rd} (hb : step (takeR l len a o) f = some r) (hq : Res K c l len S Q E (resD r))
    (i : ∀ k, l[a]? = some k → a < l.length → a ≠ 200 → f (.str k.2.1) (a + 1) o = some r → Res K c l len (sup S c (curO K l len (a + 1) o)) Q E (resD r) → Q' (.str k.2.1) (sup S c (curO K l len (a + 1) o))) : Res K c l len S Q' E (takeR l len a o) := by
  cases ht : takeR l len a o with
  | error p =>
    rw [ht] at hb
    injection hb with hb
    subst hb
    exact hq
  | ok r1 =>
    obtain ⟨d, a1, o1⟩ := r1
    rw [ht] at hb
    obtain ⟨h1, h2, h3, h4, k, h5, h6⟩ := takeR_ok ht
    subst h3 h4 h6
    exact i k h5 h1 h2 hb hq.move
theorem Res.accept {a o : Nat} {x : Tx} {r : Except Nat (Cl × Nat × Nat)} {f : D → Nat → Nat → Rd} {g : Rd} (hc : Cu K c l len a o S) (hb : (if seesW l a x = true then K63.step (takeR l len a o) f else g) = some r) (hq : Res K c l len S Q E (resD r))
    (i1 : ∀ k, l[a]? = some k → a < l.length → a ≠ 200 → f (.str k.2.1) (a + 1) o = some r → Res K c l len (sup S c (curO K l len (a + 1) o)) Q E (resD r) → Q' (.bl true) (sup S c (curO K l len (a + 1) o)))
    (i2 : seesW l a x = false → g = some r → Q' (.bl false) S) : Res K c l len S Q' E (acceptR l len a o x) := by
  unfold acceptR
  cases hs : seesW l a x with
  | true =>
    rw [hs, if_pos rfl] at hb
    rw [if_pos rfl]
    cases ht : takeR l len a o with
    | error p =>
      rw [ht] at hb
      injection hb with hb
      subst hb
      exact hq
    | ok r1 =>
      obtain ⟨d, a1, o1⟩ := r1
      rw [ht] at hb
      obtain ⟨h1, h2, h3, h4, k, h5, h6⟩ := takeR_ok ht
      subst h3 h4 h6
      exact i1 k h5 h1 h2 hb hq.move
  | false =>
    rw [hs, if_neg Bool.false_ne_true] at hb
    rw [if_neg Bool.false_ne_true]
    show Q' (.bl false) (sup S c _)
    rw [sup_id hc.o]
    exact i2 hs hb
end
def m_line (K : PySem.W.Frag) (line n : Nat) : M := fun ds S Q E => ∃ p c l len at_ op m r, ds = [.ref p] ∧ PC K p c l len at_ op S ∧ m ≤ n ∧ rd l len m line at_ op = some r ∧ Res K c l len S Q E (resD r)
def m_part (K : PySem.W.Frag) (n : Nat) : M := fun ds S Q E => ∃ p c l len at_ op m r, ds = [.ref p] ∧ PC K p c l len at_ op S ∧ m ≤ n ∧ seesW l at_ (tx "~") = false ∧ rd l len m 5 at_ op = some r ∧ Res K c l len S Q E (resD r)
abbrev MeL (P : Program) (w : World) (K : PySem.W.Frag) (mg : Str → Option Value) (base : Heap) (k : Nat) (mn : Str) (line n : Nat) : Prop := Me P w K mg base k (PaC K) mn ["self"] (m_line K line n)
theorem d_same (Z : Zf P w K mg base) (n : Nat) (G : MeL P w K mg base (9 + n) "given" 2 n) : MeL P w K mg base (9 + n + 1) "same" 1 (n + 1) := by
  obtain ⟨fd, F, hb⟩ := Z.F_Parser_same
  refine ⟨⟨_, fd, df_of (k := 9 + n) F sc_Parser_same (fun cdv A outer s H E F0 E' B => (dss_cons (ds_set 1 nd_Parser_same (de_me0 (dv 0) G (B.mono (by omega))))
    (dss_cons (ds_if (dt_val (de_me (de_fldK K rfl (dv 0)) (d_Cursor_accept Z) (B.mono (by omega)) (da_cons de_str da_nil))) (dss_one (ds_ret (de_tup (da_cons de_str (da_cons (dv 1) (da_cons (de_me0 (dv 0) G (B.mono (by omega))) da_nil)))))) dss_nil)
    (dss_one (ds_ret (dv 1)))))) ?_, Z.m_Parser_same, hb⟩, Z.c_Parser⟩
  rintro ds S Q E hl ⟨p, c, l, len, at_, op, m, r, rfl, h, hm, hr, hq⟩
  rw [show startD N_Parser_same [.ref p] = [some (.ref p), none] from rfl]
  clear hl
  have po := h.po
  have p1 := pl_cursor Z
  walk_at "rds"
  obtain ⟨m, rfl⟩ : ∃ m', m = m' + 1 := by
    cases m with
    | zero => cases hr
    | succ m => exact ⟨m, rfl⟩
  rw [rd_1] at hr
  cases h2 : rd l len m 2 at_ op with
  | none => rw [h2] at hr; cases hr
  | some r1 =>
    rw [h2] at hr
    refine ⟨p, c, l, len, at_, op, m, r1, rfl, h, by omega, h2, Res.bind hr hq fun c1 a1 o1 e hr hq => ?_⟩
    subst e
    obtain ⟨g1, g2, g3, g4, g5⟩ := rd_good m 2 at_ op (by omega) (by omega) h.le _ _ _ h2
    subst g4
    have h' := h.to (a := a1) (o := o1) g2 g3
    have po' := h'.po
    have co' := h'.cu.o
    walk_at "rds"
    refine ⟨c, l, len, a1, o1, _, rfl, h'.cu, Res.accept h'.cu hr hq (fun k hk hlt h200 hr hq => ?_) (fun hs hr => ?_)⟩
    · refine ⟨true, rfl, ?_⟩
      have h'' := h'.to (a := a1 + 1) (o := o1) (by omega) (by omega)
      have po'' := h''.po
      walk_at "rds"
      cases h3 : rd l len m 2 (a1 + 1) o1 with
      | none => rw [h3] at hr; cases hr
      | some r2 =>
        rw [h3] at hr
        refine ⟨p, c, l, len, a1 + 1, o1, m, r2, rfl, h'', by omega, h3, Res.bind hr hq fun c2 a2 o2 e hr hq => ?_⟩
        subst e
        obtain ⟨k1, k2, k3, k4, k5⟩ := rd_good m 2 _ _ (by omega) (by omega) h''.le _ _ _ h3
        cases hr
        exact fini (Res.here (h''.to (a := a2) (o := o2) k2 k3).cu hq)
    · refine ⟨false, rfl, ?_⟩
      cases hr
      exact fini (Res.here h'.cu hq)
theorem d_given (Z : Zf P w K mg base) (n : Nat) (G : MeL P w K mg base (9 + n) "either" 3 n) (G2 : MeL P w K mg base (9 + n) "given" 2 n) : MeL P w K mg base (9 + n + 1) "given" 2 (n + 1) := by
  obtain ⟨fd, F, hb⟩ := Z.F_Parser_given
  refine ⟨⟨_, fd, df_of (k := 9 + n) F sc_Parser_given (fun cdv A outer s H E F0 E' B => (dss_cons (ds_set 1 nd_Parser_given (de_me0 (dv 0) G (B.mono (by omega))))
    (dss_cons (ds_if (dt_val (de_me (de_fldK K rfl (dv 0)) (d_Cursor_accept Z) (B.mono (by omega)) (da_cons de_str da_nil))) (dss_one (ds_ret (de_tup (da_cons de_str (da_cons (dv 1) (da_cons (de_me0 (dv 0) G2 (B.mono (by omega))) da_nil)))))) dss_nil)
    (dss_one (ds_ret (dv 1)))))) ?_, Z.m_Parser_given, hb⟩, Z.c_Parser⟩
  rintro ds S Q E hl ⟨p, c, l, len, at_, op, m, r, rfl, h, hm, hr, hq⟩
  rw [show startD N_Parser_given [.ref p] = [some (.ref p), none] from rfl]
  clear hl
  have po := h.po
  have p1 := pl_cursor Z
  walk_at "rds"
  obtain ⟨m, rfl⟩ : ∃ m', m = m' + 1 := by
    cases m with
    | zero => cases hr
    | succ m => exact ⟨m, rfl⟩
  rw [rd_2] at hr
  cases h2 : rd l len m 3 at_ op with
  | none => rw [h2] at hr; cases hr
  | some r1 =>
    rw [h2] at hr
    refine ⟨p, c, l, len, at_, op, m, r1, rfl, h, by omega, h2, Res.bind hr hq fun c1 a1 o1 e hr hq => ?_⟩
    subst e
    obtain ⟨g1, g2, g3, g4, g5⟩ := rd_good m 3 at_ op (by omega) (by omega) h.le _ _ _ h2
    subst g4
    have h' := h.to (a := a1) (o := o1) g2 g3
    have po' := h'.po
    have co' := h'.cu.o
    walk_at "rds"
    refine ⟨c, l, len, a1, o1, _, rfl, h'.cu, Res.accept h'.cu hr hq (fun k hk hlt h200 hr hq => ?_) (fun hs hr => ?_)⟩
    · refine ⟨true, rfl, ?_⟩
      have h'' := h'.to (a := a1 + 1) (o := o1) (by omega) (by omega)
      have po'' := h''.po
      walk_at "rds"
      cases h3 : rd l len m 2 (a1 + 1) o1 with
      | none => rw [h3] at hr; cases hr
      | some r2 =>
        rw [h3] at hr
        refine ⟨p, c, l, len, a1 + 1, o1, m, r2, rfl, h'', by omega, h3, Res.bind hr hq fun c2 a2 o2 e hr hq => ?_⟩
        subst e
        obtain ⟨k1, k2, k3, k4, k5⟩ := rd_good m 2 _ _ (by omega) (by omega) h''.le _ _ _ h3
        cases hr
        exact fini (Res.here (h''.to (a := a2) (o := o2) k2 k3).cu hq)
    · refine ⟨false, rfl, ?_⟩
      cases hr
      exact fini (Res.here h'.cu hq)
theorem d_either (Z : Zf P w K mg base) (n : Nat) (G : MeL P w K mg base (9 + n) "both" 4 n) : MeL P w K mg base (9 + n + 1) "either" 3 (n + 1) := by
  obtain ⟨fd, F, hb⟩ := Z.F_Parser_either
  refine ⟨⟨_, fd, df_of (k := 9 + n) F sc_Parser_either (fun cdv A outer s H E F0 E' B => (dss_cons (ds_set 1 nd_Parser_either (de_me0 (dv 0) G (B.mono (by omega))))
    (dss_cons (ds_while (passes_of rfl) (dt_val (de_me (de_fldK K rfl (dv 0)) (d_Cursor_accept Z) (B.mono (by omega)) (da_cons de_str da_nil))) (dss_one (ds_set 1 nd_Parser_either (de_tup (da_cons de_str (da_cons (dv 1) (da_cons (de_me0 (dv 0) G (B.mono (by omega))) da_nil)))))))
    (dss_one (ds_ret (dv 1)))))) ?_, Z.m_Parser_either, hb⟩, Z.c_Parser⟩
  rintro ds S Q E hl ⟨p, c, l, len, at_, op, m, r, rfl, h, hm, hr, hq⟩
  rw [show startD N_Parser_either [.ref p] = [some (.ref p), none] from rfl]
  clear hl
  have po := h.po
  have p1 := pl_cursor Z
  walk_at "rds"
  obtain ⟨m, rfl⟩ : ∃ m', m = m' + 1 := by
    cases m with
    | zero => cases hr
    | succ m => exact ⟨m, rfl⟩
  rw [rd_3] at hr
  cases h2 : rd l len m 4 at_ op with
  | none => rw [h2] at hr; cases hr
  | some r1 =>
    rw [h2] at hr
    refine ⟨p, c, l, len, at_, op, m, r1, rfl, h, by omega, h2, Res.bind hr hq fun c1 a1 o1 e hr hq => ?_⟩
    subst e
    obtain ⟨g1, g2, g3, g4, g5⟩ := rd_good m 4 at_ op (by omega) (by omega) h.le _ _ _ h2
    subst g4
    clear h2 g1 g5
    have h' := h.to (a := a1) (o := o1) g2 g3
    clear h po
    rw [bind_some] at hr
    clear hr
    rename_i hr
    generalize sup S c (curO K l len a1 o1) = S1 at hq h' ⊢
    refine ⟨201, while_ind (fun n ρ S' => ∃ c1 a1 o1, ρ = [some (.ref p), some (clD c1)] ∧ PC K p c l len a1 o1 S' ∧ loopR l len (rd l len m 4) (tx "|") .or n c1 a1 o1 = some r ∧ Res K c l len S' Q E (resD r)) ?_ ?_ _ _ _ ⟨c1, a1, o1, rfl, h', hr, hq⟩⟩
    · clear hr hq h' g2 g3
      rintro n2 ρ S' W hW ⟨c1, a1, o1, rfl, h, hr, hq⟩
      unfold loopR at hr
      have po := h.po
      have co := h.cu.o
      walk_at "rds"
      refine ⟨c, l, len, a1, o1, _, rfl, h.cu, Res.accept h.cu hr hq (fun k hk hlt h200 hr hq => ?_) (fun hs hr => ?_)⟩
      · refine ⟨true, rfl, ?_⟩
        have h'' := h.to (a := a1 + 1) (o := o1) (by omega) (by have := h.le; omega)
        have po'' := h''.po
        walk_at "rds"
        cases h3 : rd l len m 4 (a1 + 1) o1 with
        | none => rw [h3] at hr; cases hr
        | some r2 =>
          rw [h3] at hr
          refine ⟨p, c, l, len, a1 + 1, o1, m, r2, rfl, h'', by omega, h3, Res.bind hr hq fun c2 a2 o2 e hr3 hq3 => ?_⟩
          subst e
          obtain ⟨k1, k2, k3, k4, k5⟩ := rd_good m 4 _ _ (by omega) (by omega) h''.le _ _ _ h3
          subst k4
          exact hW _ _ ⟨.bin .or c1 c2, a2, o2, rfl, h''.to k2 k3, hr3, hq3⟩
      · refine ⟨false, rfl, ?_⟩
        cases hr
        exact fini (Res.here h.cu hq)
    · rintro ρ S' ⟨c1, a1, o1, _, _, z, _⟩
      cases z
theorem d_both (Z : Zf P w K mg base) (n : Nat) (G : MeL P w K mg base (9 + n) "turned" 5 n) : MeL P w K mg base (9 + n + 1) "both" 4 (n + 1) := by
  obtain ⟨fd, F, hb⟩ := Z.F_Parser_both
  refine ⟨⟨_, fd, df_of (k := 9 + n) F sc_Parser_both (fun cdv A outer s H E F0 E' B => (dss_cons (ds_set 1 nd_Parser_both (de_me0 (dv 0) G (B.mono (by omega))))
    (dss_cons (ds_while (passes_of rfl) (dt_val (de_me (de_fldK K rfl (dv 0)) (d_Cursor_accept Z) (B.mono (by omega)) (da_cons de_str da_nil))) (dss_one (ds_set 1 nd_Parser_both (de_tup (da_cons de_str (da_cons (dv 1) (da_cons (de_me0 (dv 0) G (B.mono (by omega))) da_nil)))))))
    (dss_one (ds_ret (dv 1)))))) ?_, Z.m_Parser_both, hb⟩, Z.c_Parser⟩
  rintro ds S Q E hl ⟨p, c, l, len, at_, op, m, r, rfl, h, hm, hr, hq⟩
  rw [show startD N_Parser_both [.ref p] = [some (.ref p), none] from rfl]
  clear hl
  have po := h.po
  have p1 := pl_cursor Z
  walk_at "rds"
  obtain ⟨m, rfl⟩ : ∃ m', m = m' + 1 := by
    cases m with
    | zero => cases hr
    | succ m => exact ⟨m, rfl⟩
  rw [rd_4] at hr
  cases h2 : rd l len m 5 at_ op with
  | none => rw [h2] at hr; cases hr
  | some r1 =>
    rw [h2] at hr
    refine ⟨p, c, l, len, at_, op, m, r1, rfl, h, by omega, h2, Res.bind hr hq fun c1 a1 o1 e hr hq => ?_⟩
    subst e
    obtain ⟨g1, g2, g3, g4, g5⟩ := rd_good m 5 at_ op (by omega) (by omega) h.le _ _ _ h2
    subst g4
    clear h2 g1 g5
    have h' := h.to (a := a1) (o := o1) g2 g3
    clear h po
    rw [bind_some] at hr
    clear hr
    rename_i hr
    generalize sup S c (curO K l len a1 o1) = S1 at hq h' ⊢
    refine ⟨201, while_ind (fun n ρ S' => ∃ c1 a1 o1, ρ = [some (.ref p), some (clD c1)] ∧ PC K p c l len a1 o1 S' ∧ loopR l len (rd l len m 5) (tx "&") .and n c1 a1 o1 = some r ∧ Res K c l len S' Q E (resD r)) ?_ ?_ _ _ _ ⟨c1, a1, o1, rfl, h', hr, hq⟩⟩
    · clear hr hq h' g2 g3
      rintro n2 ρ S' W hW ⟨c1, a1, o1, rfl, h, hr, hq⟩
      unfold loopR at hr
      have po := h.po
      have co := h.cu.o
      walk_at "rds"
      refine ⟨c, l, len, a1, o1, _, rfl, h.cu, Res.accept h.cu hr hq (fun k hk hlt h200 hr hq => ?_) (fun hs hr => ?_)⟩
      · refine ⟨true, rfl, ?_⟩
        have h'' := h.to (a := a1 + 1) (o := o1) (by omega) (by have := h.le; omega)
        have po'' := h''.po
        walk_at "rds"
        cases h3 : rd l len m 5 (a1 + 1) o1 with
        | none => rw [h3] at hr; cases hr
        | some r2 =>
          rw [h3] at hr
          refine ⟨p, c, l, len, a1 + 1, o1, m, r2, rfl, h'', by omega, h3, Res.bind hr hq fun c2 a2 o2 e hr3 hq3 => ?_⟩
          subst e
          obtain ⟨k1, k2, k3, k4, k5⟩ := rd_good m 5 _ _ (by omega) (by omega) h''.le _ _ _ h3
          subst k4
          exact hW _ _ ⟨.bin .and c1 c2, a2, o2, rfl, h''.to k2 k3, hr3, hq3⟩
      · refine ⟨false, rfl, ?_⟩
        cases hr
        exact fini (Res.here h.cu hq)
    · rintro ρ S' ⟨c1, a1, o1, _, _, z, _⟩
      cases z
/-- a claim, turned j times -/
def nots : Nat → Cl → Cl
  | 0, c => c
  | j + 1, c => nots j (.not c)
theorem nots_not : ∀ (j : Nat) (c : Cl), nots j (.not c) = .not (nots j c)
  | 0, _ => rfl
  | j + 1, c => nots_not j (.not c)
def notsR (j : Nat) : Except Nat (Cl × Nat × Nat) → Except Nat (Cl × Nat × Nat)
  | .error p => .error p
  | .ok (c, a, o) => .ok (nots j c, a, o)
theorem rngD_len (n : Nat) (a : Int) : (rngD a n).length = n := by
  unfold rngD
  simp
theorem d_turned (Z : Zf P w K mg base) (n : Nat) (G : Me P w K mg base (9 + n) (PaC K) "part" ["self"] (m_part K (n + 1))) : MeL P w K mg base (9 + n + 1) "turned" 5 (n + 1) := by
  obtain ⟨fd, F, hb⟩ := Z.F_Parser_turned
  refine ⟨⟨_, fd, df_of (k := 9 + n) F sc_Parser_turned (fun cdv A outer s H E F0 E' B => (dss_cons (ds_set 1 nd_Parser_turned de_int)
    (dss_cons (ds_while (passes_of rfl) (dt_val (de_me (de_fldK K rfl (dv 0)) (d_Cursor_accept Z) (B.mono (by omega)) (da_cons de_str da_nil))) (dss_one (ds_aug 1 nd_Parser_turned de_int dip_add)))
    (dss_cons (ds_set 2 nd_Parser_turned (de_me0 (dv 0) G (B.mono (by omega))))
    (dss_cons (ds_for (passes_of rfl) rfl (di_rng rfl Z.f_range (da_cons (dv 1) da_nil)) (dg_name 3 nd_Parser_turned) (dss_one (ds_set 2 nd_Parser_turned (de_tup (da_cons de_str (da_cons (dv 2) da_nil))))))
    (dss_one (ds_ret (dv 2)))))))) ?_, Z.m_Parser_turned, hb⟩, Z.c_Parser⟩
  rintro ds S Q E hl ⟨p, c, l, len, at_, op, m, r, rfl, h, hm, hr, hq⟩
  rw [show startD N_Parser_turned [.ref p] = [some (.ref p), none, none, none] from rfl]
  clear hl
  have p1 := pl_cursor Z
  walk_at "rds"
  refine ⟨m + 1, while_ind (fun n2 ρ S' => ∃ j a1 o1 r1, ρ = [some (.ref p), some (.int (j : Nat)), none, none] ∧ PC K p c l len a1 o1 S' ∧ j + n2 ≤ m + 1 ∧ rd l len (n2 - 1) 5 a1 o1 = some r1 ∧ 1 ≤ n2 ∧ Res K c l len S' Q E (resD (notsR j r1)) ∧ j ≤ a1) ?_ ?_ _ _ _ ⟨0, at_, op, r, rfl, h, by omega, hr, by omega, ?_, by omega⟩⟩
  · clear hr hq h
    rintro n2 ρ S' W hW ⟨j, a1, o1, r1, rfl, h, hj, hr, _, hq, hj2⟩
    have po := h.po
    have co := h.cu.o
    walk_at "rds"
    refine ⟨c, l, len, a1, o1, _, rfl, h.cu, ?_⟩
    rw [Nat.add_sub_cancel] at hr
    obtain ⟨n3, rfl⟩ : ∃ n3, n2 = n3 + 1 := by
      cases n2 with
      | zero => cases hr
      | succ m => exact ⟨m, rfl⟩
    have hr0 := hr
    rw [rd_5] at hr
    unfold line5 at hr
    unfold acceptR
    cases hs : seesW l a1 (tx "~") with
    | true =>
      rw [hs, if_pos rfl] at hr
      rw [if_pos rfl]
      cases ht : takeR l len a1 o1 with
      | error e =>
        rw [ht] at hr
        injection hr with hr
        subst hr
        exact hq
      | ok q =>
        obtain ⟨d, a2, o2⟩ := q
        rw [ht] at hr
        obtain ⟨t1, t2, t3, t4, _⟩ := takeR_ok ht
        subst t3 t4
        have hr : bindR (rd l len n3 5 (a1 + 1) o2) (fun c a o => some (.ok (.not c, a, o))) = some r1 := hr
        cases h3 : rd l len n3 5 (a1 + 1) o2 with
        | none => rw [h3] at hr; cases hr
        | some r3 =>
          rw [h3] at hr
          refine ⟨true, rfl, hW _ _ ⟨j + 1, a1 + 1, o2, r3, rfl, h.to (by omega) (by have := h.le; omega), by omega, h3, by omega, ?_, by omega⟩⟩
          refine Res.move ?_
          cases r3 with
          | error e =>
            injection hr with hr
            subst hr
            exact hq
          | ok q =>
            obtain ⟨c4, a4, o4⟩ := q
            injection hr with hr
            subst hr
            exact hq
    | false =>
      rw [if_neg Bool.false_ne_true]
      show ∃ k, D.bl false = D.bl k ∧ _
      refine ⟨false, rfl, ?_⟩
      rw [sup_id h.cu.o]
      walk_at "rds"
      refine ⟨p, c, l, len, a1, o1, n3 + 1, r1, rfl, h, by omega, hs, hr0, ?_⟩
      cases r1 with
      | error e => exact hq
      | ok q =>
        obtain ⟨c4, a4, o4⟩ := q
        have hq : Q (clD (nots j c4)) (sup S' c (curO K l len a4 o4)) := hq
        show _ ∧ _ ∧ forR _ _ _ _ _ _
        have hle := h.le
        refine ⟨by omega, by omega, for_ind (fun ds ρ S2 => ∃ i x, ρ = [some (.ref p), some (.int (j : Nat)), some (clD (nots i c4)), x] ∧ i + ds.length = j ∧ S2 = sup S' c (curO K l len a4 o4)) ?_ ?_ _ _ _ ⟨0, none, rfl, ?_, rfl⟩⟩
        · rintro ρ S2 ⟨i, x, rfl, hi, rfl⟩
          have hi : i = j := hi
          subst hi
          walk_at "rds"
          exact fini hq
        · rintro d ds ρ S2 W' hW' ⟨i, x, rfl, hi, rfl⟩
          walk_at "rds"
          have e : clD (nots (i + 1) c4) = .tup [.str (tx "not"), clD (nots i c4)] := by
            show clD (nots i (.not c4)) = _
            rw [nots_not]
            rfl
          exact hW' _ _ ⟨i + 1, some d, by rw [e], by simp at hi; omega, rfl⟩
        · rw [rngD_len]; simp
  · rintro ρ S' ⟨j, a1, o1, r1, _, _, _, _, z, _⟩
    omega
  · cases r with
    | error e => exact hq
    | ok r => exact hq
end K63
namespace K63
open PySem PySem.Spec L2 DL
local macro_rules | `(tactic| walk_at "rds") => `(tactic| simp only [tdSeq, tdAsg, tdV, gdName, tdAnd, tdOr, tdNot, tdB, tdOp, tdCB, tdCons, tdNil, tdC, tdAug, tdSl, tdP, tdRet, tdTup, tdIf, tdIfS, gOrd, gI0, gI, gLen, gIx, gAdd, gInt, vw, ixP, gSl, tdDrop, tdRetN, tdNext, gIn_sc, gIn_ts, gIn_ls, gIn_t2, gIn_l2, gIn_l4, tdApp, sl_0, sl_1, sl_2, sl_3, sl_4, sl_5, ff, tt', true_and, id,
  gEq, eqS, tdFor, tdiT, tdiL, tdiR, Option.getD_some, tdLc, lcR, gMax, tdNoP, forR, tdRaise, tdCall, tdNotV, tdAndV, tdOrV, tdBox, tdZ, gdTup, gdCons, gdNil, tdBreak, tdCont, tdYes, icast, icast1, icast2, icast3, tdLst, gIn_l4, icastL, icastE, icastZ, ln_0, ln_1, ln_2, ln_3,
  List.getElem?_cons_zero, List.getElem?_cons_succ, List.set_cons_zero, List.set_cons_succ, Option.some.injEq, exists_eq_left', exists_eq_left, D.bl.injEq, decide_eq_true_eq,
  tdFldC, tdMeth, tdMake, tdPutF, tdAugF, D.ref.injEq, DO.ins.injEq, and_assoc, lk_cursor, lp_given, lp_same, lp_either, lp_both, lp_turned, lp_part, lp_definition, icE12, icE200, icS1, DL.gSub, D.int.injEq, D.str.injEq, sup_same, curF_len, eq_self, not_true_eq_false, not_false_eq_true, Bool.false_eq_true, Bool.not_eq_true, decide_not, atIn, atI_0, atI_1, atI_2, List.getElem?_map, Option.map_some, Option.map_none, tokD, decide_true, decide_false, Bool.not_true, Bool.not_false, if_true, if_false, lm_0, lm_1, lm_2, List.length_map, exists_and_left, lk_tokens, lk_length, lk_at, lk_opened, lm_at_end, lm_position, lm_refuse, lm_sees, lm_sees_kind, lm_take, lm_take_kind, lm_accept, lm_expect, lm_seen_of, lm_enter, lm_close, pu_at, pu_opened, *])
variable {P : Program} {w : World} {K : PySem.W.Frag} {mg : Str → Option Value} {base : Heap}
theorem d_part (Z : Zf P w K mg base) (k n : Nat) (hk : 7 ≤ k) (G : MeL P w K mg base k "same" 1 n) : Me P w K mg base (k + 1) (PaC K) "part" ["self"] (m_part K (n + 2)) := by
  obtain ⟨fd, F, hb⟩ := Z.F_Parser_part
  refine ⟨⟨_, fd, df_of (k := k) F sc_Parser_part (fun cdv A outer s H E F0 E' B => (dss_cons (ds_set 1 nd_Parser_part (de_fldK K rfl (dv 0)))
    (dss_cons (ds_if (dt_val (de_me (dv 1) (d_Cursor_sees_kind Z) (B.mono (by omega)) (da_cons de_str da_nil))) (dss_one (ds_ret (de_tup (da_cons de_str (da_cons (de_me0 (dv 1) (d_Cursor_take Z) (B.mono (by omega))) da_nil))))) dss_nil)
    (dss_cons (ds_if (dt_val (de_me (dv 1) (d_Cursor_accept Z) (B.mono (by omega)) (da_cons de_str da_nil))) (dss_one (ds_ret (de_tup (da_cons de_str da_nil)))) dss_nil)
    (dss_cons (ds_if (dt_not (dt_val (de_me (dv 1) (d_Cursor_sees Z) (B.mono (by omega)) (da_cons de_str da_nil)))) (dss_one (ds_expr (de_me0 (dv 1) (d_Cursor_refuse Z) (B.mono (by omega))))) dss_nil)
    (dss_cons (ds_expr (de_me (dv 1) (d_Cursor_enter Z) (B.mono (by omega)) (da_cons de_str da_nil)))
    (dss_cons (ds_set 2 nd_Parser_part (de_me0 (dv 0) G (B.mono (by omega))))
    (dss_cons (ds_expr (de_me (dv 1) (d_Cursor_close Z) (B.mono (by omega)) (da_cons de_str da_nil)))
    (dss_one (ds_ret (dv 2))))))))))) ?_, Z.m_Parser_part, hb⟩, Z.c_Parser⟩
  rintro ds S Q E hl ⟨p, c, l, len, a, o, m, r, rfl, h, hm, hs, hr, hq⟩
  rw [show startD N_Parser_part [.ref p] = [some (.ref p), none, none] from rfl]
  clear hl
  have p1 := pl_cursor Z
  have po := h.po
  have co := h.cu.o
  obtain ⟨m, rfl⟩ : ∃ m', m = m' + 1 := by
    cases m with
    | zero => cases hr
    | succ m => exact ⟨m, rfl⟩
  rw [rd_5] at hr
  unfold line5 at hr
  rw [hs, if_neg Bool.false_ne_true] at hr
  walk_at "rds"
  refine ⟨c, l, len, a, o, _, rfl, h.cu, ?_⟩
  cases hkw : kindW l a (tx "name") with
  | true =>
    rw [hkw, if_pos rfl] at hr
    refine ⟨true, rfl, ?_⟩
    walk_at "rds"
    refine ⟨c, l, len, a, o, rfl, h.cu, Res.step hr hq fun k hk hlt h200 hr hq => ?_⟩
    cases hr
    exact fini (Res.here (h.cu.to (by omega)) hq)
  | false =>
    rw [hkw, if_neg Bool.false_ne_true] at hr
    refine ⟨false, rfl, ?_⟩
    walk_at "rds"
    refine ⟨c, l, len, a, o, _, rfl, h.cu, Res.accept h.cu hr hq (fun k hk hlt h200 hr hq => ?_) (fun hs2 hrB => ?_)⟩
    · refine ⟨true, rfl, ?_⟩
      cases hr
      walk_at "rds"
      exact fini (Res.here (h.cu.to (by omega)) hq)
    · refine ⟨false, rfl, ?_⟩
      walk_at "rds"
      refine ⟨c, l, len, a, o, _, rfl, h.cu, ?_⟩
      cases hs3 : seesW l a (tx "(") with
      | false =>
        rw [hs3, if_neg Bool.false_ne_true] at hrB
        refine ⟨false, rfl, ?_⟩
        cases hrB
        walk_at "rds"
        exact ⟨c, l, len, a, o, rfl, h.cu, hq S fun _ _ => rfl⟩
      | true =>
        rw [hs3, if_pos rfl] at hrB
        refine ⟨true, rfl, ?_⟩
        walk_at "rds"
        refine ⟨c, l, len, a, o, _, rfl, h.cu, ?_⟩
        unfold enterR expectR
        by_cases h12 : o = 12
        · rw [if_pos h12] at hrB ⊢
          cases hrB
          exact hq
        · rw [if_neg h12] at hrB ⊢
          rw [hs3, if_pos rfl]
          cases ht : takeR l len a o with
          | error e =>
            rw [ht] at hrB
            cases hrB
            exact hq
          | ok q =>
            obtain ⟨d, a1, o1⟩ := q
            rw [ht] at hrB
            obtain ⟨t1, t2, t3, t4, _⟩ := takeR_ok ht
            subst t3 t4
            have hrC : bindR (under l len m (a + 1) (o1 + 1)) (fun c a o => if seesW l a (tx ")") = true then step (takeR l len a o) fun x a o => some (Except.ok (c, a, o - 1)) else some (Except.error (posOf l len a))) = some r := hrB
            have h1 : PC K p c l len (a + 1) (o1 + 1) (sup S c (curO K l len (a + 1) (o1 + 1))) := h.to (by omega) (by have := h.le; omega)
            have po1 := h1.po
            show ∃ x, sup S c (curO K l len (a + 1) (o1 + 1)) p = _ ∧ _
            refine ⟨_, po1, lp_same, ?_⟩
            cases m with
            | zero => cases hrC
            | succ m =>
              have hrD : bindR (rd l len m 1 (a + 1) (o1 + 1)) (fun c a o => if seesW l a (tx ")") = true then step (takeR l len a o) fun x a o => some (Except.ok (c, a, o - 1)) else some (Except.error (posOf l len a))) = some r := hrC
              cases h3 : rd l len m 1 (a + 1) (o1 + 1) with
              | none => rw [h3] at hrD; cases hrD
              | some r3 =>
                rw [h3] at hrD
                refine ⟨p, c, l, len, a + 1, o1 + 1, m, r3, rfl, h1, by omega, h3, Res.bind hrD (Res.move hq) fun c2 a2 o2 e hrE hqE => ?_⟩
                subst e
                obtain ⟨k1, k2, k3, k4, k5⟩ := rd_good m 1 _ _ (by omega) (by omega) h1.le _ _ _ h3
                have h2 : PC K p c l len a2 o2 (sup (sup S c (curO K l len (a + 1) (o1 + 1))) c (curO K l len a2 o2)) := h1.to k2 k3
                refine ⟨_, h2.cu.o, lm_close, c, l, len, a2, o2, _, rfl, h2.cu, by omega, ?_⟩
                unfold closeR expectR
                cases hs4 : seesW l a2 (tx ")") with
                | false =>
                  rw [hs4, if_neg Bool.false_ne_true] at hrE
                  cases hrE
                  exact hqE
                | true =>
                  rw [hs4, if_pos rfl] at hrE
                  rw [if_pos rfl]
                  cases ht2 : takeR l len a2 o2 with
                  | error e =>
                    rw [ht2] at hrE
                    cases hrE
                    exact hqE
                  | ok q =>
                    obtain ⟨d3, a3, o3⟩ := q
                    rw [ht2] at hrE
                    injection hrE with hrE
                    subst hrE
                    exact fini hqE
/-- a promise that asks what never is -/
theorem me_vac {k : Nat} {C : Addr} {mn : Str} {ps : List Str} {m m' : M} (G : Me P w K mg base k C mn ps m) (h : ∀ ds S Q E, m' ds S Q E → m ds S Q E) : Me P w K mg base k C mn ps m' := let ⟨f, fd, h1, h2⟩ := G.ex; ⟨⟨f, fd, h1.imp h, h2⟩, G.cl⟩
theorem line_0 {line : Nat} {ds : List D} {S : Store} {Q : D → Store → Prop} {E : XD} (h : m_line K line 0 ds S Q E) : False := by
  obtain ⟨p, c, l, len, a, o, m, r, _, _, hm, hr, _⟩ := h
  obtain rfl : m = 0 := by omega
  cases hr
theorem df_vac {k : Nat} {f : Addr} {fd : FuncData} {ps : List Str} {m : M} (h : ∀ ds S Q E, ¬ m ds S Q E) : DF P w K mg base k f fd ps m :=
  ⟨fun vs H Q E ⟨F, S, ds, Q', E', _, _, _, hm, _⟩ => (h _ _ _ _ hm).elim, fun _ _ _ _ _ _ _ _ _ _ _ _ _ ⟨F, S, ds, Q', E', _, _, _, hm, _⟩ => (h _ _ _ _ hm).elim⟩
theorem vac_same (Z : Zf P w K mg base) (k : Nat) : MeL P w K mg base k "same" 1 0 := by
  obtain ⟨fd, F, hb⟩ := Z.F_Parser_same
  exact ⟨⟨_, fd, df_vac fun _ _ _ _ h => line_0 h, Z.m_Parser_same, hb⟩, Z.c_Parser⟩
theorem vac_given (Z : Zf P w K mg base) (k : Nat) : MeL P w K mg base k "given" 2 0 := by
  obtain ⟨fd, F, hb⟩ := Z.F_Parser_given
  exact ⟨⟨_, fd, df_vac fun _ _ _ _ h => line_0 h, Z.m_Parser_given, hb⟩, Z.c_Parser⟩
theorem vac_either (Z : Zf P w K mg base) (k : Nat) : MeL P w K mg base k "either" 3 0 := by
  obtain ⟨fd, F, hb⟩ := Z.F_Parser_either
  exact ⟨⟨_, fd, df_vac fun _ _ _ _ h => line_0 h, Z.m_Parser_either, hb⟩, Z.c_Parser⟩
theorem vac_both (Z : Zf P w K mg base) (k : Nat) : MeL P w K mg base k "both" 4 0 := by
  obtain ⟨fd, F, hb⟩ := Z.F_Parser_both
  exact ⟨⟨_, fd, df_vac fun _ _ _ _ h => line_0 h, Z.m_Parser_both, hb⟩, Z.c_Parser⟩
theorem vac_turned (Z : Zf P w K mg base) (k : Nat) : MeL P w K mg base k "turned" 5 0 := by
  obtain ⟨fd, F, hb⟩ := Z.F_Parser_turned
  exact ⟨⟨_, fd, df_vac fun _ _ _ _ h => line_0 h, Z.m_Parser_turned, hb⟩, Z.c_Parser⟩
theorem lines (Z : Zf P w K mg base) : ∀ n : Nat, MeL P w K mg base (9 + n) "same" 1 n ∧ MeL P w K mg base (9 + n) "given" 2 n ∧ MeL P w K mg base (9 + n) "either" 3 n ∧ MeL P w K mg base (9 + n) "both" 4 n ∧ MeL P w K mg base (9 + n) "turned" 5 n := by
  intro n
  induction n using Nat.strongRecOn with
  | ind n ih =>
    cases n with
    | zero => exact ⟨vac_same Z _, vac_given Z _, vac_either Z _, vac_both Z _, vac_turned Z _⟩
    | succ n =>
      obtain ⟨h1, h2, h3, h4, h5⟩ := ih n (by omega)
      refine ⟨d_same Z n h2, d_given Z n h3 h2, d_either Z n h4, d_both Z n h5, d_turned Z n ?_⟩
      cases n with
      | zero =>
        have g := me_vac (m' := m_part K 1) (d_part Z 7 0 (Nat.le_refl _) (vac_same Z 7)) fun ds S Q E ⟨p, c, l, len, a, o, m, r, e1, e2, e3, e4⟩ => ⟨p, c, l, len, a, o, m, r, e1, e2, by omega, e4⟩
        exact g.mono (by omega)
      | succ n =>
        obtain ⟨k1, _⟩ := ih n (by omega)
        exact (d_part Z (9 + n) n (by omega) k1).mono (by omega)
theorem sz1 {α : Type} : ([] : List α).length < sizeLine := by
  have : (1000 : Nat) ≤ sizeLine := sz5 (by omega)
  show 0 < _
  omega
theorem sz2 {α : Type} {a : α} : ([] ++ [a] : List α).length < sizeLine := by
  have : (1000 : Nat) ≤ sizeLine := sz5 (by omega)
  show 1 < _
  omega
def m_depth (n : Nat) : M := fun ds S Q E => ∃ c : Cl, ds = [clD c] ∧ depth c ≤ n ∧ Q (.int (depth c : Nat)) S
theorem depth_pos : ∀ c : Cl, 1 ≤ depth c
  | .word _ => Nat.le_refl _
  | .non => Nat.le_refl _
  | .not _ => by show 1 ≤ 1 + _; omega
  | .bin _ _ _ => by show 1 ≤ 1 + _; omega
theorem vac_depth (Z : Zf P w K mg base) (k : Nat) : Ca P w K mg base k "depth_of" ["claim"] (m_depth 0) := by
  obtain ⟨fd, F, hb⟩ := Z.F_depth_of
  exact ⟨_, fd, df_vac fun _ _ _ _ ⟨c, _, h, _⟩ => by have := depth_pos c; omega, Z.g_depth_of, F.kp, hb⟩
theorem d_depth (Z : Zf P w K mg base) (n : Nat) (G : Ca P w K mg base (1 + n) "depth_of" ["claim"] (m_depth n)) : Ca P w K mg base (1 + n + 1) "depth_of" ["claim"] (m_depth (n + 1)) := by
  obtain ⟨fd, F, hb⟩ := Z.F_depth_of
  refine ⟨_, fd, df_of (k := 1 + n) F sc_depth_of (fun cdv A outer s H E F0 E' B => (dss_cons (ds_if (dt_cmp od_in (de_ix (dv 0) de_int) (de_tup (da_cons de_str (da_cons de_str da_nil))) rfl) (dss_one (ds_ret de_int)) dss_nil)
    (dss_one (ds_ret (de_op od_add de_int (de_cB (oc_max rfl) rfl Z.f_max bb_max (da_cons (de_lc rfl nd_depth_of (di_tup (de_sl (dv 0) (do_some de_int) do_none)) (blkOk_by (own := [("part", 1)]) (N := N_depth_of) (sc := defScope st_depth_of) (by decide +kernel)) (fun _ _ _ _ _ => pg_name (i := 1) nd_depth_of rfl (Or.inl rfl)) (fun _ _ _ _ _ => dts_nil) (fun _ _ _ _ _ => (de_ca G (B.blk.mono (by omega)) rfl (da_cons (dv 1) da_nil)))) da_nil))))))) ?_, Z.g_depth_of, F.kp, hb⟩
  rintro ds S Q E hl ⟨c, rfl, hn, hq⟩
  clear hl
  cases c with
  | word x =>
    rw [show startD N_depth_of [clD (.word x)] = [some (.tup [.str (tx "word"), .str x]), none] from rfl]
    walk_at "rds"
    rw [if_pos (by decide)]
    exact fini hq
  | non =>
    rw [show startD N_depth_of [clD .non] = [some (.tup [.str (tx "none")]), none] from rfl]
    walk_at "rds"
    rw [if_pos (by decide)]
    exact fini hq
  | not a =>
    rw [show startD N_depth_of [clD (.not a)] = [some (.tup [.str (tx "not"), clD a]), none] from rfl]
    walk_at "rds"
    rw [if_neg (by decide)]
    rw [show cutL [D.str (tx "not"), clD a] (some 1) none = [clD a] from rfl]
    refine ⟨show ¬ (HT.sIx 2 0 (some 1) = 0 ∧ HT.sIx 2 2 none = 2) by decide, ?_⟩
    walk_at "rds"
    have hn : 1 + depth a ≤ n + 1 := hn
    refine ⟨a, rfl, by omega, sz1, ?_⟩
    exact ⟨[(depth a : Int)], rfl, by simp, fini hq⟩
  | bin f a b =>
    rw [show startD N_depth_of [clD (.bin f a b)] = [some (.tup [.str f.t, clD a, clD b]), none] from rfl]
    walk_at "rds"
    rw [if_neg (by cases f <;> decide)]
    rw [show cutL [D.str f.t, clD a, clD b] (some 1) none = [clD a, clD b] from rfl]
    refine ⟨show ¬ (HT.sIx 3 0 (some 1) = 0 ∧ HT.sIx 3 3 none = 3) by decide, ?_⟩
    walk_at "rds"
    have hn : 1 + max (depth a) (depth b) ≤ n + 1 := hn
    refine ⟨a, rfl, by omega, sz1, ?_⟩
    refine ⟨b, rfl, by omega, sz2, ?_⟩
    refine ⟨[(depth a : Int), (depth b : Int)], rfl, by simp, fini ?_⟩
    have e : (1 : Int) + maxL [(depth a : Int), (depth b : Int)] = ((depth (.bin f a b) : Nat) : Int) := by
      show (1 : Int) + max (depth a : Int) (depth b : Int) = ((1 + max (depth a) (depth b) : Nat) : Int)
      omega
    rw [e]
    exact hq
theorem depths (Z : Zf P w K mg base) : ∀ n : Nat, Ca P w K mg base (1 + n) "depth_of" ["claim"] (m_depth n)
  | 0 => vac_depth Z _
  | n + 1 => d_depth Z n (depths Z n)
end K63
namespace K63
open PySem PySem.Spec L2 DL
local macro_rules | `(tactic| walk_at "rds") => `(tactic| simp only [tdSeq, tdAsg, tdV, gdName, tdAnd, tdOr, tdNot, tdB, tdOp, tdCB, tdCons, tdNil, tdC, tdAug, tdSl, tdP, tdRet, tdTup, tdIf, tdIfS, gOrd, gI0, gI, gLen, gIx, gAdd, gInt, vw, ixP, gSl, tdDrop, tdRetN, tdNext, gIn_sc, gIn_ts, gIn_ls, gIn_t2, gIn_l2, gIn_l4, tdApp, sl_0, sl_1, sl_2, sl_3, sl_4, sl_5, ff, tt', true_and, id,
  gEq, eqS, tdFor, tdiT, tdiL, tdiR, Option.getD_some, tdLc, lcR, gMax, tdNoP, forR, tdRaise, tdCall, tdNotV, tdAndV, tdOrV, tdBox, tdZ, gdTup, gdCons, gdNil, tdBreak, tdCont, tdYes, icast, icast1, icast2, icast3, tdLst, gIn_l4, icastL, icastE, icastZ, ln_0, ln_1, ln_2, ln_3,
  List.getElem?_cons_zero, List.getElem?_cons_succ, List.set_cons_zero, List.set_cons_succ, Option.some.injEq, exists_eq_left', exists_eq_left, D.bl.injEq, decide_eq_true_eq,
  tdFldC, tdMeth, tdMake, tdPutF, tdAugF, D.ref.injEq, DO.ins.injEq, and_assoc, lk_cursor, lp_given, lp_same, lp_either, lp_both, lp_turned, lp_part, lp_definition, icE12, icE200, icS1, DL.gSub, D.int.injEq, D.str.injEq, sup_same, curF_len, eq_self, not_true_eq_false, not_false_eq_true, Bool.false_eq_true, Bool.not_eq_true, decide_not, atIn, atI_0, atI_1, atI_2, List.getElem?_map, Option.map_some, Option.map_none, tokD, decide_true, decide_false, Bool.not_true, Bool.not_false, if_true, if_false, lm_0, lm_1, lm_2, List.length_map, exists_and_left, lk_tokens, lk_length, lk_at, lk_opened, lm_at_end, lm_position, lm_refuse, lm_sees, lm_sees_kind, lm_take, lm_take_kind, lm_accept, lm_expect, lm_seen_of, lm_enter, lm_close, pu_at, pu_opened, *])
variable {P : Program} {w : World} {K : PySem.W.Frag} {mg : Str → Option Value} {base : Heap}
abbrev sortT : List Tx := [tx "note", tx "ask", tx "name"]
/-- what a chunk's tokens read as -/
def readP (l : List Tok) (len : Nat) : Except Nat (Tx × Tx × Cl) := match sortT.find? (seesW l 0) with
  | none => .error (posOf l len 0)
  | some s => match takeR l len 0 0 with
    | .error i => .error i
    | .ok (_, a1, o1) => match takeKindR l len a1 o1 (tx "name") with
      | .error i => .error i
      | .ok (d, a2, o2) => match expectR l len a2 o2 (tx "=") with
        | .error i => .error i
        | .ok (_, a3, o3) => match rd l len 264 1 a3 o3 with
          | none => .error 0
          | some (.error i) => .error i
          | some (.ok (c, a4, _)) => if a4 = l.length ∧ depth c ≤ 12 then (match d with
              | .str n => .ok (s, n, c)
              | _ => .error 0) else .error (posOf l len a4)
def m_definition (K : PySem.W.Frag) : M := fun ds S Q E => ∃ p c l len, ds = [.ref p] ∧ PC K p c l len 0 0 S ∧ match readP l len with
  | .ok (s, n, cl) => ∀ S', (∀ b, b ≠ c → S' b = S b) → Q (.tup [.str s, .str n, clD cl]) S'
  | .error i => ∀ S', (∀ b, b ≠ c → S' b = S b) → E (xpos K i) S'
theorem d_Parser_definition (Z : Zf P w K mg base) : Me P w K mg base 275 (PaC K) "definition" ["self"] (m_definition K) := by
  obtain ⟨fd, F, hb⟩ := Z.F_Parser_definition
  have G := (lines Z 264).1
  have G2 := depths Z 200
  refine ⟨⟨_, fd, df_of (k := 274) F sc_Parser_definition (fun cdv A outer s H E F0 E' B => (dss_cons (ds_set 1 nd_Parser_definition (de_fldK K rfl (dv 0)))
    (dss_cons (ds_set 2 nd_Parser_definition (de_me (dv 1) (d_Cursor_seen_of Z) (B.mono (by omega)) (da_cons (de_tup (da_cons de_str (da_cons de_str (da_cons de_str da_nil)))) da_nil)))
    (dss_cons (ds_if (dt_cmp (od_eq B.units) (dv 2) de_str rfl) (dss_one (ds_expr (de_me0 (dv 1) (d_Cursor_refuse Z) (B.mono (by omega))))) dss_nil)
    (dss_cons (ds_expr (de_me0 (dv 1) (d_Cursor_take Z) (B.mono (by omega))))
    (dss_cons (ds_set 3 nd_Parser_definition (de_me (dv 1) (d_Cursor_take_kind Z) (B.mono (by omega)) (da_cons de_str da_nil)))
    (dss_cons (ds_expr (de_me (dv 1) (d_Cursor_expect Z) (B.mono (by omega)) (da_cons de_str da_nil)))
    (dss_cons (ds_set 4 nd_Parser_definition (de_me0 (dv 0) G (B.mono (by omega))))
    (dss_cons (ds_if (PW.pt (dw_or (dt_not (dt_val (de_me0 (dv 1) (d_Cursor_at_end Z) (B.mono (by omega))))) (dw_or1 (dt_cmp (od_ord op_gt) (de_ca G2 (B.mono (by omega)) rfl (da_cons (dv 4) da_nil)) (de_gint Z.i_MOST_DEPTH rfl) rfl)))) (dss_one (ds_expr (de_me0 (dv 1) (d_Cursor_refuse Z) (B.mono (by omega))))) dss_nil)
    (dss_one (ds_ret (de_tup (da_cons (dv 2) (da_cons (dv 3) (da_cons (dv 4) da_nil))))))))))))))) ?_, Z.m_Parser_definition, hb⟩, Z.c_Parser⟩
  clear G G2
  rintro ds S Q E hl ⟨p, c, l, len, rfl, h, hq⟩
  rw [show startD N_Parser_definition [.ref p] = [some (.ref p), none, none, none, none] from rfl]
  clear hl
  have p1 := pl_cursor Z
  have po := h.po
  have co := h.cu.o
  walk_at "rds"
  refine ⟨c, l, len, 0, 0, sortT, rfl, h.cu, ?_⟩
  unfold readP at hq
  cases hf : sortT.find? (seesW l 0) with
  | none =>
    rw [hf] at hq
    walk_at "rds"
    rw [if_pos (show (none : Option Tx).getD [] = tx "" from rfl)]
    exact ⟨c, l, len, 0, 0, rfl, h.cu, hq S fun _ _ => rfl⟩
  | some s =>
    rw [hf] at hq
    dsimp only at hq
    have hs : ¬ s = tx "" := fun z => by
      have h1 : s ∈ sortT := List.mem_of_find?_eq_some hf
      rw [z] at h1
      exact absurd h1 (by decide)
    walk_at "rds"
    refine ⟨c, l, len, 0, 0, rfl, h.cu, ?_⟩
    cases ht : takeR l len 0 0 with
    | error e =>
      rw [ht] at hq
      exact hq
    | ok q =>
      obtain ⟨d, a1, o1⟩ := q
      rw [ht] at hq
      dsimp only at hq
      obtain ⟨t1, t2, t3, t4, _⟩ := takeR_ok ht
      have h1 : PC K p c l len a1 o1 (sup S c (curO K l len a1 o1)) := h.to (by omega) (by omega)
      have hS1 : ∀ b, b ≠ c → (sup S c (curO K l len a1 o1)) b = S b := fun b hb => sup_ne hb
      show ∃ x, sup S c (curO K l len a1 o1) c = _ ∧ _
      generalize sup S c (curO K l len a1 o1) = S1 at h1 hS1 ⊢
      refine ⟨_, h1.cu.o, lm_take_kind, c, l, len, a1, o1, _, rfl, h1.cu, ?_⟩
      cases ht2 : takeKindR l len a1 o1 (tx "name") with
      | error e =>
        rw [ht2] at hq
        exact fun S' hs => hq S' fun b hb => (hs b hb).trans (hS1 b hb)
      | ok q =>
        obtain ⟨d2, a2, o2⟩ := q
        rw [ht2] at hq
        dsimp only at hq
        have hk : a2 = a1 + 1 ∧ a1 ≠ 200 ∧ a1 < l.length ∧ o2 = o1 ∧ ∃ n, d2 = .str n := by
          unfold takeKindR at ht2
          split at ht2
          · obtain ⟨u1, u2, u3, u4, k, u5, u6⟩ := takeR_ok ht2
            exact ⟨u3, u2, u1, u4, _, u6⟩
          · cases ht2
        obtain ⟨u3, u2, u1, u4, nm, u5⟩ := hk
        subst u5
        have h2 : PC K p c l len a2 o2 (sup S1 c (curO K l len a2 o2)) := h1.to (by omega) (by omega)
        have hS2 : ∀ b, b ≠ c → (sup S1 c (curO K l len a2 o2)) b = S b := fun b hb => (sup_ne hb).trans (hS1 b hb)
        show ∃ x, sup S1 c (curO K l len a2 o2) c = _ ∧ _
        generalize sup S1 c (curO K l len a2 o2) = S2 at h2 hS2 ⊢
        refine ⟨_, h2.cu.o, lm_expect, c, l, len, a2, o2, _, rfl, h2.cu, ?_⟩
        cases ht3 : expectR l len a2 o2 (tx "=") with
        | error e =>
          rw [ht3] at hq
          exact fun S' hs => hq S' fun b hb => (hs b hb).trans (hS2 b hb)
        | ok q =>
          obtain ⟨d3, a3, o3⟩ := q
          rw [ht3] at hq
          dsimp only at hq
          obtain ⟨v1, v2, v3, v4, v5⟩ := expectR_ok ht3
          have h3 : PC K p c l len a3 o3 (sup S2 c (curO K l len a3 o3)) := h2.to (by omega) (by omega)
          have hS3 : ∀ b, b ≠ c → (sup S2 c (curO K l len a3 o3)) b = S b := fun b hb => (sup_ne hb).trans (hS2 b hb)
          show ∃ x, sup S2 c (curO K l len a3 o3) p = _ ∧ _
          generalize sup S2 c (curO K l len a3 o3) = S3 at h3 hS3 ⊢
          obtain ⟨r, hr⟩ := rd_total (l := l) (len := len) 264 1 a3 o3 (by omega) (by omega) h3.le (by omega) (by omega)
          rw [hr] at hq
          refine ⟨_, h3.po, lp_same, p, c, l, len, a3, o3, 264, r, rfl, h3, Nat.le_refl _, hr, ?_⟩
          cases r with
          | error e => exact fun S' hs => hq S' fun b hb => (hs b hb).trans (hS3 b hb)
          | ok r =>
            obtain ⟨cl, a4, o4⟩ := r
            dsimp only at hq
            obtain ⟨g1, g2, g3, g4, g5⟩ := rd_good 264 1 a3 o3 (by omega) (by omega) h3.le _ _ _ hr
            have h4 : PC K p c l len a4 o4 (sup S3 c (curO K l len a4 o4)) := h3.to g2 g3
            have hS4 : ∀ b, b ≠ c → (sup S3 c (curO K l len a4 o4)) b = S b := fun b hb => (sup_ne hb).trans (hS3 b hb)
            show ∃ x, sup S3 c (curO K l len a4 o4) c = _ ∧ _
            generalize sup S3 c (curO K l len a4 o4) = S4 at h4 hS4 ⊢
            refine ⟨_, h4.cu.o, lm_at_end, c, l, len, a4, o4, rfl, h4.cu, ?_⟩
            have co4 := h4.cu.o
            refine ⟨_, rfl, ?_⟩
            by_cases he : a4 = l.length
            · rw [if_neg (by rw [dt he]; decide)]
              refine ⟨cl, rfl, by omega, ?_⟩
              show if (12 : Int) < (depth cl : Int) then _ else _
              by_cases hd : depth cl ≤ 12
              · rw [if_neg (by omega)]
                rw [if_pos ⟨he, hd⟩] at hq
                exact fini (hq S4 hS4)
              · rw [if_pos (by omega)]
                rw [if_neg (fun z => hd z.2)] at hq
                exact ⟨_, co4, lm_refuse, c, l, len, a4, o4, rfl, h4.cu, hq S4 hS4⟩
            · rw [if_pos (by rw [df he]; decide)]
              rw [if_neg (fun z => he z.1)] at hq
              exact ⟨_, co4, lm_refuse, c, l, len, a4, o4, rfl, h4.cu, hq S4 hS4⟩
/-- what a chunk reads as -/
def readC (t : Tx) : Except Nat (Tx × Tx × Cl) := match toks t with
  | .error i => .error i
  | .ok l => readP l t.length
def trD (x : Tx × Tx × Cl) : D := .tup [.str x.1, .str x.2.1, clD x.2.2]
def m_parse (K : PySem.W.Frag) : M := fun ds S Q E => ∃ t : Tx, ds = [.str t] ∧ t.length ≤ 99000 ∧ match readC t with
  | .ok x => Q (trD x) S
  | .error i => ∀ S', Sub S S' → E (xpos K i) S'
theorem d_parse (Z : Zf P w K mg base) : Ca P w K mg base 276 "parse" ["chunk"] (m_parse K) := by
  obtain ⟨fd, F, hb⟩ := Z.F_parse
  refine ⟨_, fd, df_of (k := 275) F sc_parse (fun cdv A outer s H E F0 E' B => (dss_one (ds_ret (de_me0 (de_ma (d_Parser___init__ Z) (B.mono (by omega)) rfl (da_cons (dv 0) da_nil)) (d_Parser_definition Z) (B.mono (by omega)))))) ?_, Z.g_parse, F.kp, hb⟩
  rintro ds S Q E hl ⟨t, rfl, ht, hq⟩
  rw [show startD N_parse [.str t] = [some (.str t)] from rfl]
  clear hl
  have p1 := pl_cursor Z
  walk_at "rds"
  intro p hp
  refine ⟨p, t, rfl, sup_same, ht, ?_⟩
  unfold readC at hq
  cases hk : toks t with
  | error i =>
    rw [hk] at hq
    exact fun S' hs => hq S' (Sub.trans (Sub.sup hp) hs)
  | ok l =>
    rw [hk] at hq
    dsimp only at hq ⊢
    intro c hc
    have hpc : c ≠ p := fun z => by rw [z, sup_same] at hc; cases hc
    have hc0 : S c = none := by rw [sup_ne hpc] at hc; exact hc
    obtain ⟨k1, k2⟩ := toks_ok hk
    refine ⟨rfl, ?_⟩
    have hp2 : sup (sup (sup S p (.ins (PaC K) [])) c (curO K l t.length 0 0)) p (paO K c) p = some (paO K c) := sup_same
    have hc2 : sup (sup (sup S p (.ins (PaC K) [])) c (curO K l t.length 0 0)) p (paO K c) c = some (curO K l t.length 0 0) := by rw [sup_ne hpc, sup_same]
    have sub : ∀ S', (∀ b, b ≠ c → S' b = sup (sup (sup S p (.ins (PaC K) [])) c (curO K l t.length 0 0)) p (paO K c) b) → Sub S S' := fun S' hs a o ha => by
      have h1 : a ≠ c := fun z => by rw [z, hc0] at ha; cases ha
      have h2 : a ≠ p := fun z => by rw [z, hp] at ha; cases ha
      rw [hs a h1, sup_ne h2, sup_ne h1, sup_ne h2]
      exact ha
    refine ⟨_, hp2, lp_definition, p, c, l, t.length, rfl, ⟨hp2, ⟨hc2, by omega, by omega, by omega, fun k hk2 => by have := k1 k hk2; omega⟩, by omega⟩, ?_⟩
    cases hr : readP l t.length with
    | error i =>
      rw [hr] at hq
      exact fun S' hs => hq S' (sub S' hs)
    | ok x =>
      obtain ⟨s, n, cl⟩ := x
      rw [hr] at hq
      exact fun S' hs => fini' (sub S' hs) hq
end K63
namespace K63
open PySem PySem.Spec L2 DL
theorem ixN_2 {α : Type} {a b c d e : α} : ixN [a, b, c, d, e].length 2 = some 2 := rfl
theorem ixN_3 {α : Type} {a b c d e : α} : ixN [a, b, c, d, e].length 3 = some 3 := rfl
theorem gEq_ss {f : Bool → Bool} {S : Store} {x y : Tx} {Q : D → Store → Prop} : gEq f S (.str x) (.str y) Q = Q (.bl (f (decide (x = y)))) S := rfl
theorem gEq_ns {S : Store} {x y : Int} {Q : D → Store → Prop} : gEq not S (.int x) (.int y) Q = Q (.bl (!(decide (x = y)))) S := rfl
theorem gEq_ii {f : Bool → Bool} {S : Store} {x y : Int} {Q : D → Store → Prop} : gEq f S (.int x) (.int y) Q = Q (.bl (f (decide (x = y)))) S := rfl
local macro_rules | `(tactic| walk_at "rdn") => `(tactic| simp only [tdSeq, tdAsg, tdV, gdName, tdAnd, tdOr, tdNot, tdB, tdOp, tdCB, tdCons, tdNil, tdC, tdAug, tdSl, tdP, tdRet, tdTup, tdIf, tdIfS, gOrd, gI0, gI, gLen, gIx, gAdd, gInt, vw, ixP, gSl, tdDrop, tdRetN, tdNext, gIn_sc, gIn_ts, gIn_ls, gIn_t2, gIn_l2, gIn_l4, tdApp, sl_0, sl_1, sl_2, sl_3, sl_4, sl_5, ff, tt', true_and, id,
  eqS, tdFor, tdiT, tdiL, tdiR, tdXp, gList, gEq_ns, tdJoin, gJoin, vwS, gMul, gMod, gDiv, gPow, gI, tdAugS, gdSub, gSet, ixN_2, ixN_3, atI_3, atI_4, gEq_ss, gEq_ii, tdDict, tdPairs, tdNeg, Option.isNone_none, Option.isNone_some, gIsi, tdGet, tdDPut, tdDAug, tdIsN, tdNotN, DO.dic.injEq, Option.isNone_none, Option.isNone_some, gIn_l2, gIn_t2, Option.getD_some, tdLc, gMax, tdNoP, forR, tdRaise, tdCall, tdNotV, tdAndV, tdOrV, tdBox, tdZ, gdTup, gdCons, gdNil, tdBreak, tdCont, tdYes, icast, icast1, icast2, icast3, tdLst, gIn_l4, icastL, icastE, icastZ, ln_0, ln_1, ln_2, ln_3,
  List.getElem?_cons_zero, List.getElem?_cons_succ, List.set_cons_zero, List.set_cons_succ, Option.some.injEq, exists_eq_left', exists_eq_left, D.bl.injEq, decide_eq_true_eq,
  tdFldC, tdMeth, tdMake, tdPutF, tdAugF, D.ref.injEq, DO.ins.injEq, and_assoc, lk_cursor, lp_given, lp_same, lp_either, lp_both, lp_turned, lp_part, lp_definition, icE12, icE200, icS1, DL.gSub, D.int.injEq, D.str.injEq, sup_same, curF_len, eq_self, not_true_eq_false, not_false_eq_true, Bool.false_eq_true, Bool.not_eq_true, decide_not, atIn, atI_0, atI_1, atI_2, List.getElem?_map, Option.map_some, Option.map_none, tokD, decide_true, decide_false, Bool.not_true, Bool.not_false, if_true, if_false, lm_0, lm_1, lm_2, List.length_map, exists_and_left, lk_tokens, lk_length, lk_at, lk_opened, lm_at_end, lm_position, lm_refuse, lm_sees, lm_sees_kind, lm_take, lm_take_kind, lm_accept, lm_expect, lm_seen_of, lm_enter, lm_close, pu_at, pu_opened, *])
variable {P : Program} {w : World} {K : PySem.W.Frag} {mg : Str → Option Value} {base : Heap}
/-- the drawer's state -/
def stL (ns : List Int) (p : Nat) (big seed : Int) (ws : List Tx) : List D := [.lst (ns.map D.int), .int (p : Nat), .int big, .int seed, .lst (ws.map D.str)]
abbrev stO (ns : List Int) (p : Nat) (big seed : Int) (ws : List Tx) : DO := .lst (stL ns p big seed ws)
structure StOk (big seed : Int) : Prop where
  b : 0 ≤ big
  s0 : 0 ≤ seed
  s1 : seed < 2147483647
/-- a number below lim is drawn -/
def m_law_next : M := fun ds S Q E => ∃ a ns p big seed ws, ∃ lim : Nat, ds = [.ref a, .int (lim : Nat)] ∧ S a = some (stO ns p big seed ws) ∧ StOk big seed ∧ 0 < lim ∧ lim ≤ 100000 ∧
  ∀ (r p' : Nat) (big' seed' : Int), r < lim → StOk big' seed' → Q (.int (r : Nat)) (sup S a (stO ns p' big' seed' ws))
theorem d__law_next (Z : Zf P w K mg base) : Ca P w K mg base 1 "_law_next" ["state", "limit"] m_law_next := by
  obtain ⟨fd, F, hb⟩ := Z.F__law_next
  refine ⟨_, fd, df_of (k := 0) F sc__law_next (fun cdv A outer s H E F0 E' B => (dss_cons (ds_if (PW.pt (dw_and (dt_cmp (od_eq B.units) (de_ix (dv 0) de_int) de_int rfl) (dw_and1 (dt_cmp (od_ord op_lt) (de_ix (dv 0) de_int) (de_cB oc_len rfl Z.f_len bb_len (da_cons (de_ix (dv 0) de_int) da_nil)) rfl)))) (dss_cons (ds_set 2 nd__law_next (de_ix (de_ix (dv 0) de_int) (de_ix (dv 0) de_int)))
    (dss_cons (ds_augS (dv 0) de_int de_int ip_add)
    (dss_one (ds_if (dt_cmp (od_ord op_ge) (dv 2) (de_op od_pow de_int de_int) rfl) (dss_one (ds_asg (dv 2) (dg_sub (dv 0) de_int))) (dss_one (ds_asg (de_op od_mod (de_cT oc_int rfl Z.f_int bb_int (da_cons (de_op od_add (de_op od_add (de_op od_mul (de_ix (dv 0) de_int) de_int) (de_op od_mod (de_cT oc_int rfl Z.f_int bb_int (da_cons (dv 2) da_nil)) de_int)) de_int) da_nil)) de_int) (dg_sub (dv 0) de_int))))))) dss_nil)
    (dss_cons (ds_if (dt_cmp (od_ord op_gt) (de_ix (dv 0) de_int) de_int rfl) (dss_cons (ds_set 3 nd__law_next (de_op od_mod (de_cT oc_int rfl Z.f_int bb_int (da_cons (de_ix (dv 0) de_int) da_nil)) (dv 1)))
    (dss_cons (ds_asg (de_op od_div (de_ix (dv 0) de_int) (dv 1)) (dg_sub (dv 0) de_int))
    (dss_one (ds_ret (dv 3))))) dss_nil)
    (dss_cons (ds_asg (de_op od_mod (de_cT oc_int rfl Z.f_int bb_int (da_cons (de_op od_add (de_op od_mul (de_ix (dv 0) de_int) de_int) de_int) da_nil)) de_int) (dg_sub (dv 0) de_int))
    (dss_one (ds_ret (de_op od_mod (de_cT oc_int rfl Z.f_int bb_int (da_cons (de_op od_div (de_ix (dv 0) de_int) de_int) da_nil)) (dv 1)))))))) ?_, Z.g__law_next, F.kp, hb⟩
  rintro ds S Q E hl ⟨a, ns, p, big, seed, ws, lim, rfl, ho, hst, h0, h1, hq⟩
  rw [show startD N__law_next [.ref a, .int (lim : Nat)] = [some (.ref a), some (.int (lim : Nat)), none, none] from rfl]
  clear hl
  refine seq_cut (fun ρ S' => ∃ p' big' seed' x, ρ = [some (.ref a), some (.int (lim : Nat)), x, none] ∧ S' = sup S a (stO ns p' big' seed' ws) ∧ StOk big' seed') (fun Rest hR => ?_) ?_
  · have ho' := ho
    unfold stO stL at ho
    walk_at "rdn"
    have out : Rest [some (.ref a), some (.int (lim : Nat)), none, none] S := hR _ _ ⟨p, big, seed, none, rfl, (sup_id ho').symm, hst⟩
    by_cases hb0 : big = 0
    · rw [if_pos hb0]
      by_cases hp : p < ns.length
      · rw [if_pos hp]
        rw [List.getElem?_eq_getElem hp]
        refine ⟨_, rfl, by omega, _, rfl, (p : Int), rfl, _, rfl, show 1 < 5 by omega, ⟨by decide, by decide, by decide⟩, ?_⟩
        show if (10 ^ Int.toNat 18 : Int) ≤ ns[p] then _ else _
        by_cases hc : (10 ^ Int.toNat 18 : Int) ≤ ns[p]
        · rw [if_pos hc]
          refine ⟨_, rfl, 2, rfl, ?_⟩
          rw [sup_sup]
          have h10 : (0 : Int) ≤ 10 ^ Int.toNat 18 := by decide
          exact hR _ _ ⟨p + 1, ns[p], seed, _, rfl, rfl, ⟨by omega, hst.s0, hst.s1⟩⟩
        · rw [if_neg hc]
          refine ⟨_, rfl, ⟨.inr (by decide), ?_⟩⟩
          show (2147483647 : Int) ≠ 0 ∧ (2147483647 : Int) ≠ 0 ∧ _
          refine ⟨by decide, by decide, _, rfl, 3, rfl, ?_⟩
          rw [sup_sup]
          exact hR _ _ ⟨p + 1, big, _, _, rfl, rfl, ⟨hst.b, Int.fmod_nonneg_of_pos _ (by decide), Int.fmod_lt_of_pos _ (by decide)⟩⟩
      · rw [if_neg hp]
        exact out
    · rw [if_neg hb0]
      exact out
  · rintro ρ S' ⟨p', big', seed', x, rfl, rfl, hst'⟩
    clear ho hst
    have hlim : (lim : Int) ≠ 0 := by omega
    have hlp : (0 : Int) < (lim : Int) := by omega
    refine seq_cut (fun ρ S' => ρ = [some (.ref a), some (.int (lim : Nat)), x, none] ∧ S' = sup S a (stO ns p' big' seed' ws)) (fun Rest hR => ?_) ?_
    · have ho : sup S a (stO ns p' big' seed' ws) a = some (stO ns p' big' seed' ws) := sup_same
      have out : Rest [some (.ref a), some (.int (lim : Nat)), x, none] (sup S a (stO ns p' big' seed' ws)) := hR _ _ ⟨rfl, rfl⟩
      clear hR
      unfold stO stL at ho
      walk_at "rdn"
      refine ⟨_, rfl, ?_⟩
      show if (0 : Int) < big' then _ else _
      by_cases hb : (0 : Int) < big'
      · rw [if_pos hb]
        refine ⟨_, rfl, hlim, _, rfl, ⟨hlim, by omega⟩, _, rfl, 2, rfl, ?_⟩
        rw [sup_sup]
        obtain ⟨r, hr⟩ := Int.eq_ofNat_of_zero_le (Int.fmod_nonneg_of_pos big' hlp)
        have h2 := Int.fmod_lt_of_pos big' hlp
        rw [hr]
        exact fini (hq r p' _ seed' (by omega) ⟨Int.fdiv_nonneg (by omega) (by omega), hst'.s0, hst'.s1⟩)
      · rw [if_neg hb]
        first
          | exact True.intro
          | exact out
    · rintro ρ S' ⟨rfl, rfl⟩
      have ho : sup S a (stO ns p' big' seed' ws) a = some (stO ns p' big' seed' ws) := sup_same
      unfold stO stL at ho
      walk_at "rdn"
      refine ⟨_, rfl, ⟨.inr (by decide), by decide, _, rfl, 3, rfl, _, rfl, ⟨⟨by decide, by decide⟩, hlim, ?_⟩⟩⟩
      rw [sup_sup]
      obtain ⟨r, hr⟩ := Int.eq_ofNat_of_zero_le (Int.fmod_nonneg_of_pos ((((seed' * 69621 + 12345).fmod 2147483647) : Int).fdiv 7) hlp)
      have h2 := Int.fmod_lt_of_pos ((((seed' * 69621 + 12345).fmod 2147483647) : Int).fdiv 7) hlp
      rw [hr]
      exact fini (hq r p' big' _ (by omega) ⟨hst'.b, Int.fmod_nonneg_of_pos _ (by decide), Int.fmod_lt_of_pos _ (by decide)⟩)
end K63
namespace K63
open PySem PySem.Spec L2 DL
variable {P : Program} {w : World} {K : PySem.W.Frag} {mg : Str → Option Value} {base : Heap}
theorem td_non : tyD .non = some "NoneType" := rfl
theorem kx_non_str : kitB "NoneType" "str" = some false := by decide +kernel
theorem kx_non_tuple : kitB "NoneType" "tuple" = some false := by decide +kernel
theorem kx_non_list : kitB "NoneType" "list" = some false := by decide +kernel
theorem td_int {i : Int} : tyD (.int i) = some "int" := rfl
theorem td_str {x : Tx} : tyD (.str x) = some "str" := rfl
theorem td_tup {x : List D} : tyD (.tup x) = some "tuple" := rfl
theorem td_lst {x : List D} : tyD (.lst x) = some "list" := rfl
theorem kx_int_bool : kitB "int" "bool" = some false := by decide +kernel
theorem kx_int_int : kitB "int" "int" = some true := by decide +kernel
theorem kx_int_str : kitB "int" "str" = some false := by decide +kernel
theorem kx_int_tuple : kitB "int" "tuple" = some false := by decide +kernel
theorem kx_int_list : kitB "int" "list" = some false := by decide +kernel
theorem kx_str_bool : kitB "str" "bool" = some false := by decide +kernel
theorem kx_str_int : kitB "str" "int" = some false := by decide +kernel
theorem kx_str_str : kitB "str" "str" = some true := by decide +kernel
theorem kx_str_tuple : kitB "str" "tuple" = some false := by decide +kernel
theorem kx_str_list : kitB "str" "list" = some false := by decide +kernel
theorem kx_tuple_bool : kitB "tuple" "bool" = some false := by decide +kernel
theorem kx_tuple_int : kitB "tuple" "int" = some false := by decide +kernel
theorem kx_tuple_str : kitB "tuple" "str" = some false := by decide +kernel
theorem kx_tuple_tuple : kitB "tuple" "tuple" = some true := by decide +kernel
theorem kx_tuple_list : kitB "tuple" "list" = some false := by decide +kernel
theorem kx_list_bool : kitB "list" "bool" = some false := by decide +kernel
theorem kx_list_int : kitB "list" "int" = some false := by decide +kernel
theorem kx_list_str : kitB "list" "str" = some false := by decide +kernel
theorem kx_list_tuple : kitB "list" "tuple" = some false := by decide +kernel
theorem kx_list_list : kitB "list" "list" = some true := by decide +kernel
local macro_rules | `(tactic| walk_at "rde") => `(tactic| simp only [tdSeq, tdAsg, tdV, gdName, tdAnd, tdOr, tdNot, tdB, tdOp, tdCB, tdCons, tdNil, tdC, tdAug, tdSl, tdP, tdRet, tdTup, tdIf, tdIfS, gOrd, gI0, gI, gLen, gIx, gAdd, gInt, vw, ixP, gSl, tdDrop, tdRetN, tdNext, gIn_sc, gIn_ts, gIn_ls, gIn_t2, gIn_l2, gIn_l4, tdApp, sl_0, sl_1, sl_2, sl_3, sl_4, sl_5, ff, tt', true_and, id,
  eqS, tdFor, tdiT, tdiL, tdiR, td_non, kx_non_str, kx_non_tuple, kx_non_list, td_int, td_str, td_tup, td_lst, kx_int_bool, kx_int_int, kx_int_str, kx_int_tuple, kx_int_list, kx_str_bool, kx_str_int, kx_str_str, kx_str_tuple, kx_str_list, kx_tuple_bool, kx_tuple_int, kx_tuple_str, kx_tuple_tuple, kx_tuple_list, kx_list_bool, kx_list_int, kx_list_str, kx_list_tuple, kx_list_list, DL.isNon, gEq_ss, gEq_ii, tdDict, tdPairs, tdNeg, Option.isNone_none, Option.isNone_some, gIsi, tdGet, tdDPut, tdDAug, tdIsN, tdNotN, DO.dic.injEq, Option.isNone_none, Option.isNone_some, gIn_l2, gIn_t2, Option.getD_some, tdLc, gMax, tdNoP, forR, tdRaise, tdCall, tdNotV, tdAndV, tdOrV, tdBox, tdZ, gdTup, gdCons, gdNil, tdBreak, tdCont, tdYes, icast, icast1, icast2, icast3, tdLst, gIn_l4, icastL, icastE, icastZ, ln_0, ln_1, ln_2, ln_3,
  List.getElem?_cons_zero, List.getElem?_cons_succ, List.set_cons_zero, List.set_cons_succ, Option.some.injEq, exists_eq_left', exists_eq_left, D.bl.injEq, decide_eq_true_eq,
  tdFldC, tdMeth, tdMake, tdPutF, tdAugF, D.ref.injEq, DO.ins.injEq, and_assoc, lk_cursor, lp_given, lp_same, lp_either, lp_both, lp_turned, lp_part, lp_definition, icE12, icE200, icS1, DL.gSub, D.int.injEq, D.str.injEq, sup_same, curF_len, eq_self, not_true_eq_false, not_false_eq_true, Bool.false_eq_true, Bool.not_eq_true, decide_not, atIn, atI_0, atI_1, atI_2, List.getElem?_map, Option.map_some, Option.map_none, tokD, decide_true, decide_false, Bool.not_true, Bool.not_false, if_true, if_false, lm_0, lm_1, lm_2, List.length_map, exists_and_left, lk_tokens, lk_length, lk_at, lk_opened, lm_at_end, lm_position, lm_refuse, lm_sees, lm_sees_kind, lm_take, lm_take_kind, lm_accept, lm_expect, lm_seen_of, lm_enter, lm_close, pu_at, pu_opened, *])
/-- data of height n -/
def okD : Nat → D → Prop
  | 0, _ => False
  | _ + 1, .str _ => True
  | n + 1, .tup ds => ds.length ≤ 100000 ∧ ∀ x ∈ ds, okD n x
  | n + 1, .lst ds => ds.length ≤ 100000 ∧ ∀ x ∈ ds, okD n x
  | _ + 1, _ => False
theorem rngD_eq (n : Nat) : rngD 0 ((n : Nat) : Int).toNat = (List.range' 0 n).map (fun i => D.int ((i : Nat) : Int)) := by
  unfold rngD
  rw [Int.toNat_natCast, List.range_eq_range']
  refine List.map_congr_left fun i _ => ?_
  rw [Int.zero_add]
def m_same (n : Nat) : M := fun ds S Q E => ∃ d e, ds = [d, e] ∧ (d = .non ∨ okD n d) ∧ okD n e ∧ ∀ b : Bool, (b = true ↔ d = e) → Q (.bl b) S
theorem ext_list {xs ys : List D} (h : xs.length = ys.length) (g : ∀ k : Nat, k < ys.length → xs[k]? = ys[k]?) : xs = ys := by
  refine List.ext_getElem? fun k => ?_
  by_cases hk : k < ys.length
  · exact g k hk
  · rw [List.getElem?_eq_none (by omega), List.getElem?_eq_none (by omega)]
theorem d_lsame (Z : Zf P w K mg base) (n : Nat) (G : Ca P w K mg base (1 + n) "_law_same" ["actual", "expected"] (m_same n)) : Ca P w K mg base (1 + n + 1) "_law_same" ["actual", "expected"] (m_same (n + 1)) := by
  obtain ⟨fd, F, hb⟩ := Z.F__law_same
  refine ⟨_, fd, df_of (k := 1 + n) F sc__law_same (fun cdv A outer s H E F0 E' B => (dss_cons (ds_if (dt_isN (dv 1)) (dss_one (ds_ret (de_isN (dv 0)))) dss_nil)
    (dss_cons (ds_if (dt_val (de_cB oc_isi rfl Z.f_isinstance bb_isinstance (da_cons (dv 1) (da_cons (de_ty rfl Z.f_bool bb_bool) da_nil)))) (dss_one (ds_ret (de_and (de_cB oc_isi rfl Z.f_isinstance bb_isinstance (da_cons (dv 0) (da_cons (de_ty rfl Z.f_bool bb_bool) da_nil))) (de_one (de_cmp (od_eq B.units) (dv 0) (dv 1) rfl))))) dss_nil)
    (dss_cons (ds_if (dt_val (de_cB oc_isi rfl Z.f_isinstance bb_isinstance (da_cons (dv 1) (da_cons (de_ty rfl Z.f_int bb_int) da_nil)))) (dss_one (ds_ret (de_and (de_cB oc_isi rfl Z.f_isinstance bb_isinstance (da_cons (dv 0) (da_cons (de_ty rfl Z.f_int bb_int) da_nil))) (de_and (de_not (de_cB oc_isi rfl Z.f_isinstance bb_isinstance (da_cons (dv 0) (da_cons (de_ty rfl Z.f_bool bb_bool) da_nil)))) (de_one (de_cmp (od_eq B.units) (dv 0) (dv 1) rfl)))))) dss_nil)
    (dss_cons (ds_if (dt_val (de_cB oc_isi rfl Z.f_isinstance bb_isinstance (da_cons (dv 1) (da_cons (de_ty rfl Z.f_str bb_str) da_nil)))) (dss_one (ds_ret (de_and (de_cB oc_isi rfl Z.f_isinstance bb_isinstance (da_cons (dv 0) (da_cons (de_ty rfl Z.f_str bb_str) da_nil))) (de_one (de_cmp (od_eq B.units) (dv 0) (dv 1) rfl))))) dss_nil)
    (dss_cons (ds_if (PW.pt (dw_and (dt_val (de_cB oc_isi rfl Z.f_isinstance bb_isinstance (da_cons (dv 1) (da_cons (de_ty rfl Z.f_tuple bb_tuple) da_nil)))) (dw_and1 (dt_not (dt_val (de_cB oc_isi rfl Z.f_isinstance bb_isinstance (da_cons (dv 0) (da_cons (de_ty rfl Z.f_tuple bb_tuple) da_nil)))))))) (dss_one (ds_ret de_bl)) dss_nil)
    (dss_cons (ds_if (PW.pt (dw_and (dt_val (de_cB oc_isi rfl Z.f_isinstance bb_isinstance (da_cons (dv 1) (da_cons (de_ty rfl Z.f_list bb_list) da_nil)))) (dw_and1 (dt_not (dt_val (de_cB oc_isi rfl Z.f_isinstance bb_isinstance (da_cons (dv 0) (da_cons (de_ty rfl Z.f_list bb_list) da_nil)))))))) (dss_one (ds_ret de_bl)) dss_nil)
    (dss_cons (ds_if (dt_cmp (od_ne B.units) (de_cB oc_len rfl Z.f_len bb_len (da_cons (dv 0) da_nil)) (de_cB oc_len rfl Z.f_len bb_len (da_cons (dv 1) da_nil)) rfl) (dss_one (ds_ret de_bl)) dss_nil)
    (dss_cons (ds_for (passes_of rfl) rfl (di_rng rfl Z.f_range (da_cons (de_cB oc_len rfl Z.f_len bb_len (da_cons (dv 1) da_nil)) da_nil)) (dg_name 2 nd__law_same) (dss_one (ds_if (dt_not (dt_val (de_ca G (B.mono (by omega)) rfl (da_cons (de_ix (dv 0) (dv 2)) (da_cons (de_ix (dv 1) (dv 2)) da_nil))))) (dss_one (ds_ret de_bl)) dss_nil)))
    (dss_one (ds_ret de_bl))))))))))) ?_, Z.g__law_same, F.kp, hb⟩
  rintro ds S Q E hl ⟨d, e, rfl, hd, he, hq⟩
  rw [show startD N__law_same [d, e] = [some d, some e, none] from rfl]
  clear hl
  cases e with
  | str y =>
    rcases hd with rfl | hd
    · walk_at "rde"
      exact fini (hq false ⟨fun z => (nomatch z), fun z => (nomatch z)⟩)
    · cases d with
      | int i =>
        walk_at "rde"
        exact fini (hq false ⟨fun z => (nomatch z), fun z => (nomatch z)⟩)
      | str x =>
        walk_at "rde"
        refine fini (hq _ ⟨fun z => ?_, fun z => ?_⟩)
        · rw [of_decide_eq_true z]
        · injection z with z
          exact dt z
      | tup xs =>
        walk_at "rde"
        exact fini (hq false ⟨fun z => (nomatch z), fun z => (nomatch z)⟩)
      | lst xs =>
        walk_at "rde"
        exact fini (hq false ⟨fun z => (nomatch z), fun z => (nomatch z)⟩)
      | _ => exact hd.elim
  | tup ys =>
    rcases hd with rfl | hd
    · walk_at "rde"
      exact fini (hq false ⟨fun z => (nomatch z), fun z => (nomatch z)⟩)
    · cases d with
      | int i =>
        walk_at "rde"
        exact fini (hq false ⟨fun z => (nomatch z), fun z => (nomatch z)⟩)
      | str x =>
        walk_at "rde"
        exact fini (hq false ⟨fun z => (nomatch z), fun z => (nomatch z)⟩)
      | tup xs =>
        walk_at "rde"
        obtain ⟨hsz, hall⟩ := he
        obtain ⟨hsx, hax⟩ := hd
        by_cases hlen : xs.length = ys.length
        · rw [if_neg (by rw [dt hlen]; decide)]
          refine ⟨by omega, by omega, ?_⟩
          rw [rngD_eq]
          refine for_ind (fun ds ρ S' => ∃ k m x, ds = (List.range' k m).map (fun i => D.int ((i : Nat) : Int)) ∧ k + m = ys.length ∧ ρ = [some (.tup xs), some (.tup ys), x] ∧ S' = S ∧ ∀ i, i < k → xs[i]? = ys[i]?) ?_ ?_ _ _ _ ⟨0, ys.length, none, rfl, by omega, rfl, rfl, fun i hi => absurd hi (by omega)⟩
          · rintro ρ S' ⟨k, m, x, e1, e2, rfl, rfl, hall2⟩
            have hm : m = 0 := by
              cases m with
              | zero => rfl
              | succ m => rw [List.range'_succ] at e1; cases e1
            walk_at "rde"
            exact fini (hq true ⟨fun _ => by rw [ext_list hlen fun i hi => hall2 i (by omega)], fun _ => rfl⟩)
          · rintro d ds ρ S' W hW ⟨k, m, x, e1, e2, rfl, rfl, hall2⟩
            cases m with
            | zero => cases e1
            | succ m =>
              rw [List.range'_succ, List.map_cons] at e1
              injection e1 with e1 e3
              subst e1 e3
              have hk : k < ys.length := by omega
              have hg : ys[k]? = some ys[k] := List.getElem?_eq_getElem hk
              have hk2 : k < xs.length := by omega
              have hg2 : xs[k]? = some xs[k] := List.getElem?_eq_getElem hk2
              walk_at "rde"
              refine ⟨xs[k], ys[k], rfl, .inr (hax _ (List.getElem_mem hk2)), hall _ (List.getElem_mem hk), fun b hb => ⟨b, rfl, ?_⟩⟩
              cases b with
              | true =>
                rw [if_neg (by decide)]
                refine hW _ _ ⟨k + 1, m, _, rfl, by omega, rfl, rfl, fun i hi => ?_⟩
                by_cases z : i = k
                · subst z
                  rw [hg, hg2, hb.mp rfl]
                · exact hall2 i (by omega)
              | false =>
                rw [if_pos (by decide)]
                refine fini (hq false ⟨fun z => (nomatch z), fun z => ?_⟩)
                injection z with z
                subst z
                exact absurd (hb.mpr rfl) (by decide)
        · rw [if_pos (by rw [df hlen]; decide)]
          refine fini (hq false ⟨fun z => (nomatch z), fun z => ?_⟩)
          injection z with z
          subst z
          exact absurd rfl hlen
      | lst xs =>
        walk_at "rde"
        exact fini (hq false ⟨fun z => (nomatch z), fun z => (nomatch z)⟩)
      | _ => exact hd.elim
  | lst ys =>
    rcases hd with rfl | hd
    · walk_at "rde"
      exact fini (hq false ⟨fun z => (nomatch z), fun z => (nomatch z)⟩)
    · cases d with
      | int i =>
        walk_at "rde"
        exact fini (hq false ⟨fun z => (nomatch z), fun z => (nomatch z)⟩)
      | str x =>
        walk_at "rde"
        exact fini (hq false ⟨fun z => (nomatch z), fun z => (nomatch z)⟩)
      | tup xs =>
        walk_at "rde"
        exact fini (hq false ⟨fun z => (nomatch z), fun z => (nomatch z)⟩)
      | lst xs =>
        walk_at "rde"
        obtain ⟨hsz, hall⟩ := he
        obtain ⟨hsx, hax⟩ := hd
        by_cases hlen : xs.length = ys.length
        · rw [if_neg (by rw [dt hlen]; decide)]
          refine ⟨by omega, by omega, ?_⟩
          rw [rngD_eq]
          refine for_ind (fun ds ρ S' => ∃ k m x, ds = (List.range' k m).map (fun i => D.int ((i : Nat) : Int)) ∧ k + m = ys.length ∧ ρ = [some (.lst xs), some (.lst ys), x] ∧ S' = S ∧ ∀ i, i < k → xs[i]? = ys[i]?) ?_ ?_ _ _ _ ⟨0, ys.length, none, rfl, by omega, rfl, rfl, fun i hi => absurd hi (by omega)⟩
          · rintro ρ S' ⟨k, m, x, e1, e2, rfl, rfl, hall2⟩
            have hm : m = 0 := by
              cases m with
              | zero => rfl
              | succ m => rw [List.range'_succ] at e1; cases e1
            walk_at "rde"
            exact fini (hq true ⟨fun _ => by rw [ext_list hlen fun i hi => hall2 i (by omega)], fun _ => rfl⟩)
          · rintro d ds ρ S' W hW ⟨k, m, x, e1, e2, rfl, rfl, hall2⟩
            cases m with
            | zero => cases e1
            | succ m =>
              rw [List.range'_succ, List.map_cons] at e1
              injection e1 with e1 e3
              subst e1 e3
              have hk : k < ys.length := by omega
              have hg : ys[k]? = some ys[k] := List.getElem?_eq_getElem hk
              have hk2 : k < xs.length := by omega
              have hg2 : xs[k]? = some xs[k] := List.getElem?_eq_getElem hk2
              walk_at "rde"
              refine ⟨xs[k], ys[k], rfl, .inr (hax _ (List.getElem_mem hk2)), hall _ (List.getElem_mem hk), fun b hb => ⟨b, rfl, ?_⟩⟩
              cases b with
              | true =>
                rw [if_neg (by decide)]
                refine hW _ _ ⟨k + 1, m, _, rfl, by omega, rfl, rfl, fun i hi => ?_⟩
                by_cases z : i = k
                · subst z
                  rw [hg, hg2, hb.mp rfl]
                · exact hall2 i (by omega)
              | false =>
                rw [if_pos (by decide)]
                refine fini (hq false ⟨fun z => (nomatch z), fun z => ?_⟩)
                injection z with z
                subst z
                exact absurd (hb.mpr rfl) (by decide)
        · rw [if_pos (by rw [df hlen]; decide)]
          refine fini (hq false ⟨fun z => (nomatch z), fun z => ?_⟩)
          injection z with z
          subst z
          exact absurd rfl hlen
      | _ => exact hd.elim
  | int i => exact he.elim
  | _ => exact he.elim
theorem vac_lsame (Z : Zf P w K mg base) (k : Nat) : Ca P w K mg base k "_law_same" ["actual", "expected"] (m_same 0) := by
  obtain ⟨fd, F, hb⟩ := Z.F__law_same
  exact ⟨_, fd, df_vac fun _ _ _ _ ⟨_, c, _, _, h, _⟩ => h, Z.g__law_same, F.kp, hb⟩
theorem lsames (Z : Zf P w K mg base) : ∀ n : Nat, Ca P w K mg base (1 + n) "_law_same" ["actual", "expected"] (m_same n)
  | 0 => vac_lsame Z _
  | n + 1 => d_lsame Z n (lsames Z n)
theorem ok_cl : ∀ (c : Cl) (n : Nat), depth c < n → okD n (clD c)
  | .word x, n, h => by
    obtain ⟨m, rfl⟩ : ∃ m, n = m + 2 := ⟨n - 2, by have : depth (.word x) = 1 := rfl; omega⟩
    refine ⟨show 2 ≤ 100000 by omega, fun y hy => ?_⟩
    simp only [List.mem_cons, List.not_mem_nil, or_false] at hy
    rcases hy with rfl | rfl <;> exact True.intro
  | .non, n, h => by
    obtain ⟨m, rfl⟩ : ∃ m, n = m + 2 := ⟨n - 2, by have : depth .non = 1 := rfl; omega⟩
    refine ⟨show 1 ≤ 100000 by omega, fun y hy => ?_⟩
    simp only [List.mem_cons, List.not_mem_nil, or_false] at hy
    subst hy
    exact True.intro
  | .not a, n, h => by
    have e : depth (.not a) = 1 + depth a := rfl
    obtain ⟨m, rfl⟩ : ∃ m, n = m + 2 := ⟨n - 2, by have := depth_pos a; omega⟩
    refine ⟨show 2 ≤ 100000 by omega, fun y hy => ?_⟩
    simp only [List.mem_cons, List.not_mem_nil, or_false] at hy
    rcases hy with rfl | rfl
    · exact True.intro
    · exact ok_cl a (m + 1) (by omega)
  | .bin f a b, n, h => by
    have e : depth (.bin f a b) = 1 + max (depth a) (depth b) := rfl
    obtain ⟨m, rfl⟩ : ∃ m, n = m + 2 := ⟨n - 2, by have := depth_pos a; omega⟩
    refine ⟨show 3 ≤ 100000 by omega, fun y hy => ?_⟩
    simp only [List.mem_cons, List.not_mem_nil, or_false] at hy
    rcases hy with rfl | rfl | rfl
    · exact True.intro
    · exact ok_cl a (m + 1) (by omega)
    · exact ok_cl b (m + 1) (by omega)
theorem readP_depth {l : List Tok} {len : Nat} {s n : Tx} {c : Cl} (h : readP l len = .ok (s, n, c)) : depth c ≤ 12 := by
  unfold readP at h
  repeat' split at h
  all_goals first
    | cases h
    | skip
  all_goals (rename_i hh; exact hh.2)
end K63
namespace K63
open PySem PySem.Spec L2 DL
local macro_rules | `(tactic| walk_at "rdn") => `(tactic| simp only [tdSeq, tdAsg, tdV, gdName, tdAnd, tdOr, tdNot, tdB, tdOp, tdCB, tdCons, tdNil, tdC, tdAug, tdSl, tdP, tdRet, tdTup, tdIf, tdIfS, gOrd, gI0, gI, gLen, gIx, gAdd, gInt, vw, ixP, gSl, tdDrop, tdRetN, tdNext, gIn_sc, gIn_ts, gIn_ls, gIn_t2, gIn_l2, gIn_l4, tdApp, sl_0, sl_1, sl_2, sl_3, sl_4, sl_5, ff, tt', true_and, id,
  eqS, tdFor, tdiT, tdiL, tdiR, tdXp, gList, gEq_ns, tdJoin, gJoin, vwS, gMul, gMod, gDiv, gPow, gI, tdAugS, gdSub, gSet, ixN_2, ixN_3, atI_3, atI_4, gEq_ss, gEq_ii, tdDict, tdPairs, tdNeg, Option.isNone_none, Option.isNone_some, gIsi, tdGet, tdDPut, tdDAug, tdIsN, tdNotN, DO.dic.injEq, Option.isNone_none, Option.isNone_some, gIn_l2, gIn_t2, Option.getD_some, tdLc, gMax, tdNoP, forR, tdRaise, tdCall, tdNotV, tdAndV, tdOrV, tdBox, tdZ, gdTup, gdCons, gdNil, tdBreak, tdCont, tdYes, icast, icast1, icast2, icast3, tdLst, gIn_l4, icastL, icastE, icastZ, ln_0, ln_1, ln_2, ln_3,
  List.getElem?_cons_zero, List.getElem?_cons_succ, List.set_cons_zero, List.set_cons_succ, Option.some.injEq, exists_eq_left', exists_eq_left, D.bl.injEq, decide_eq_true_eq,
  tdFldC, tdMeth, tdMake, tdPutF, tdAugF, D.ref.injEq, DO.ins.injEq, and_assoc, lk_cursor, lp_given, lp_same, lp_either, lp_both, lp_turned, lp_part, lp_definition, icE12, icE200, icS1, DL.gSub, D.int.injEq, D.str.injEq, sup_same, curF_len, eq_self, not_true_eq_false, not_false_eq_true, Bool.false_eq_true, Bool.not_eq_true, decide_not, atIn, atI_0, atI_1, atI_2, List.getElem?_map, Option.map_some, Option.map_none, tokD, decide_true, decide_false, Bool.not_true, Bool.not_false, if_true, if_false, lm_0, lm_1, lm_2, List.length_map, exists_and_left, lk_tokens, lk_length, lk_at, lk_opened, lm_at_end, lm_position, lm_refuse, lm_sees, lm_sees_kind, lm_take, lm_take_kind, lm_accept, lm_expect, lm_seen_of, lm_enter, lm_close, pu_at, pu_opened, *])
variable {P : Program} {w : World} {K : PySem.W.Frag} {mg : Str → Option Value} {base : Heap}
/-- the drawer at a, in S, with what it leaves -/
def StA (a : Addr) (ns : List Int) (ws : List Tx) (S : Store) : Prop := ∃ p big seed, S a = some (stO ns p big seed ws) ∧ StOk big seed
/-- only the drawer at a has moved -/
def Mv (a : Addr) (ns : List Int) (ws : List Tx) (S S' : Store) : Prop := ∃ p big seed, S' = sup S a (stO ns p big seed ws) ∧ StOk big seed
theorem StA.mv {a : Addr} {ns : List Int} {ws : List Tx} {S : Store} (h : StA a ns ws S) : Mv a ns ws S S := by
  obtain ⟨p, big, seed, h1, h2⟩ := h
  exact ⟨p, big, seed, (sup_id h1).symm, h2⟩
theorem Mv.st {a : Addr} {ns : List Int} {ws : List Tx} {S S' : Store} (h : Mv a ns ws S S') : StA a ns ws S' := by
  obtain ⟨p, big, seed, rfl, h2⟩ := h
  exact ⟨p, big, seed, sup_same, h2⟩
theorem Mv.trans {a : Addr} {ns : List Int} {ws : List Tx} {S S' S'' : Store} (h : Mv a ns ws S S') (g : Mv a ns ws S' S'') : Mv a ns ws S S'' := by
  obtain ⟨p, big, seed, rfl, h2⟩ := h
  obtain ⟨p', big', seed', rfl, h3⟩ := g
  exact ⟨p', big', seed', by rw [sup_sup], h3⟩
theorem next_go {a : Addr} {ns : List Int} {ws : List Tx} {S : Store} {lim : Nat} {Q : D → Store → Prop} {E : XD} (h : StA a ns ws S) (h0 : 0 < lim) (h1 : lim ≤ 100000) (q : ∀ (r : Nat) S', r < lim → Mv a ns ws S S' → Q (.int (r : Nat)) S') : m_law_next [.ref a, .int (lim : Nat)] S Q E := by
  obtain ⟨p, big, seed, h2, h3⟩ := h
  exact ⟨a, ns, p, big, seed, ws, lim, rfl, h2, h3, h0, h1, fun r p' big' seed' hr hs => q r _ hr ⟨p', big', seed', rfl, hs⟩⟩
/-- what reads as a name -/
structure Nm (x : Tx) : Prop where
  hd : ∃ c r, x = c :: r ∧ c ∈ lowT
  wd : ∀ c ∈ x, c ∈ wordT
  kw : ¬ x ∈ kwT
def m_drawn (k : Nat) : M := fun ds S Q E => ∃ a ns ws, ds = [.ref a] ∧ StA a ns ws S ∧ ∀ (x : Tx) S', x.length ≤ k → Nm x → Mv a ns ws S S' → Q (.str x) S'
theorem txsD_of : ∀ xs : List Tx, txsD (xs.map D.str) = some xs
  | [] => rfl
  | x :: xs => by
    show (txsD (xs.map D.str)).map (x :: ·) = _
    rw [txsD_of xs]
    rfl
theorem join_len : ∀ xs : List Tx, (joinT [] xs).length = (xs.map (·.length)).sum
  | [] => rfl
  | [t] => by simp [joinT]
  | t :: u :: ts => by
    have := join_len (u :: ts)
    simp [joinT] at this ⊢
    omega
theorem sum_le {k : Nat} : ∀ xs : List Tx, (∀ x ∈ xs, x.length ≤ k) → (xs.map (·.length)).sum ≤ k * xs.length
  | [], _ => Nat.zero_le _
  | x :: xs, h => by
    have h1 := sum_le xs fun y hy => h y (List.mem_cons_of_mem _ hy)
    have h2 := h x List.mem_cons_self
    simp only [List.map_cons, List.sum_cons, List.length_cons, Nat.mul_add]
    omega
theorem mem_join {c : Nat} : ∀ {xs : List Tx}, c ∈ joinT [] xs → ∃ x ∈ xs, c ∈ x
  | [], h => nomatch h
  | [t], h => ⟨t, List.mem_cons_self, h⟩
  | t :: u :: ts, h => by
    have h' : c ∈ t ++ [] ++ joinT [] (u :: ts) := h
    rw [List.append_nil] at h'
    rcases List.mem_append.mp h' with z | z
    · exact ⟨t, List.mem_cons_self, z⟩
    · obtain ⟨x, h1, h2⟩ := mem_join z
      exact ⟨x, List.mem_cons_of_mem _ h1, h2⟩
theorem word_all : ∀ c ∈ (tx "abcdefghijklmnopqrstuvwxyz" ++ tx "0123456789_"), c ∈ wordT := by decide
theorem nm_drawn {c : Nat} {r : Tx} (hc : c ∈ tx "abcdefghijklmnopqrstuvwxyz") (hr : ∀ d ∈ r, d ∈ wordT) : Nm (([113] ++ [c]) ++ r) where
  hd := ⟨113, [c] ++ r, rfl, by decide⟩
  wd := fun d hd => by
    rcases List.mem_append.mp hd with z | z
    · rcases List.mem_append.mp z with z | z
      · rw [List.mem_singleton.mp z]; decide
      · rw [List.mem_singleton.mp z]; exact low_word hc
    · exact hr d z
  kw := fun z => by
    simp only [List.mem_cons, List.not_mem_nil, or_false] at z
    rcases z with z | z | z | z
    all_goals
      have h : some 113 = _ := congrArg List.head? z
      exact absurd h (by decide)
theorem d__law_drawn (Z : Zf P w K mg base) : Ca P w K mg base 2 "_law_drawn" ["state"] (m_drawn 5) := by
  obtain ⟨fd, F, hb⟩ := Z.F__law_drawn
  refine ⟨_, fd, df_of (k := 1) F sc__law_drawn (fun cdv A outer s H E F0 E' B => (dss_cons (ds_set 1 nd__law_drawn de_str)
    (dss_cons (ds_set 2 nd__law_drawn (de_op od_add (dv 1) de_str))
    (dss_one (ds_ret (de_op od_add (de_op od_add de_str (de_ix (dv 1) (de_ca (d__law_next Z) (B.mono (by omega)) rfl (da_cons (dv 0) (da_cons de_int da_nil))))) (de_join de_str (de_lc rfl nd__law_drawn (di_rng rfl Z.f_range (da_cons (de_ca (d__law_next Z) (B.mono (by omega)) rfl (da_cons (dv 0) (da_cons de_int da_nil))) da_nil)) (blkOk_by (own := [("k", 3)]) (N := N__law_drawn) (sc := defScope st__law_drawn) (by decide +kernel)) (fun _ _ _ _ _ => pg_name (i := 3) nd__law_drawn rfl (Or.inl rfl)) (fun _ _ _ _ _ => dts_nil) (fun _ _ _ _ _ => (de_ix (dv 2) (de_ca (d__law_next Z) (B.blk.mono (by omega)) rfl (da_cons (dv 0) (da_cons de_int da_nil))))))))))))) ?_, Z.g__law_drawn, F.kp, hb⟩
  rintro ds S Q E hl ⟨a, ns, ws, rfl, ho, hq⟩
  rw [show startD N__law_drawn [.ref a] = [some (.ref a), none, none, none] from rfl]
  clear hl
  walk_at "rdn"
  refine ⟨sz5 (by decide), next_go (lim := 26) ho (by decide) (by decide) fun r S' hr hm => ?_⟩
  have hr2 : r < (tx "abcdefghijklmnopqrstuvwxyz").length := hr
  walk_at "rdn"
  rw [if_pos (sz5 (by decide)), List.getElem?_eq_getElem hr2]
  refine ⟨_, rfl, ?_⟩
  refine ⟨sz5 (show 2 ≤ 1000000 by decide), ⟨_, rfl⟩, next_go (lim := 4) hm.st (by decide) (by decide) fun j S2 hj hm2 => ?_⟩
  show -2 ^ 62 ≤ ((j : Nat) : Int) ∧ ((j : Nat) : Int) < 2 ^ 62 ∧ lcR _ _ _ _ _ _ _ _
  refine ⟨by omega, by omega, ?_⟩
  have hlen : (rngD 0 ((j : Nat) : Int).toNat).length ≤ 3 := by rw [rngD_len]; simp; omega
  have hm3 := hm.trans hm2
  clear hm hm2 hr
  refine lc_ind (fun ds acc S' => ∃ xs : List Tx, acc = xs.map D.str ∧ (∀ x ∈ xs, x.length ≤ 1 ∧ ∀ c ∈ x, c ∈ wordT) ∧ xs.length + ds.length ≤ 3 ∧ Mv a ns ws S S') ?_ ?_ _ _ _ ⟨[], rfl, fun _ z => (nomatch z), by simpa using hlen, hm3⟩
  · rintro acc S' ⟨xs, rfl, h1, h2, hm⟩
    have h3 := sum_le xs fun x hx => (h1 x hx).1
    have h4 := join_len xs
    have h5 : xs.length ≤ 3 := by omega
    refine ⟨xs, txsD_of xs, ?_, ?_, fini (hq _ _ ?_ ?_ hm)⟩
    · show _ + xs.length * 0 ≤ _
      omega
    · refine sz5 ?_
      show 1 + 1 + (joinT [] xs).length ≤ _
      omega
    · show (([113] ++ [_]) ++ joinT [] xs).length ≤ 5
      simp only [List.length_append, List.length_cons, List.length_nil]
      omega
    · exact nm_drawn (List.getElem_mem hr2) fun c hc => by
        obtain ⟨x, hx, hcx⟩ := mem_join hc
        exact (h1 x hx).2 c hcx
  · rintro d ds acc S' W hW ⟨xs, rfl, h1, h2, hm⟩
    walk_at "rdn"
    refine next_go (lim := 37) hm.st (by decide) (by decide) fun r2 S3 hr3 hm4 => ?_
    have hr4 : r2 < (tx "abcdefghijklmnopqrstuvwxyz" ++ tx "0123456789_").length := hr3
    walk_at "rdn"
    rw [if_pos (sz5 (by decide)), List.getElem?_eq_getElem hr4]
    refine ⟨_, rfl, ?_, ?_⟩
    · have : (1000000 : Nat) ≤ sizeLine := sz5 (by omega)
      simp only [List.length_map, List.length_cons] at h2 ⊢
      omega
    · refine hW _ _ ⟨xs ++ [[_]], by rw [List.map_append]; rfl, fun x hx => ?_, ?_, hm.trans hm4⟩
      · rcases List.mem_append.mp hx with z | z
        · exact h1 x z
        · rw [List.mem_singleton.mp z]
          refine ⟨Nat.le_refl _, fun c hc => ?_⟩
          rw [List.mem_singleton.mp hc]
          exact word_all _ (List.getElem_mem hr4)
      · simp only [List.length_append, List.length_cons, List.length_nil] at h2 ⊢
        omega
end K63
namespace K63
open PySem PySem.Spec L2 DL
local macro_rules | `(tactic| walk_at "rdn") => `(tactic| simp only [tdSeq, tdAsg, tdV, gdName, tdAnd, tdOr, tdNot, tdB, tdOp, tdCB, tdCons, tdNil, tdC, tdAug, tdSl, tdP, tdRet, tdTup, tdIf, tdIfS, gOrd, gI0, gI, gLen, gIx, gAdd, gInt, vw, ixP, gSl, tdDrop, tdRetN, tdNext, gIn_sc, gIn_ts, gIn_ls, gIn_t2, gIn_l2, gIn_l4, tdApp, sl_0, sl_1, sl_2, sl_3, sl_4, sl_5, ff, tt', true_and, id,
  eqS, tdFor, tdiT, tdiL, tdiR, tdXp, gList, gEq_ns, tdJoin, gJoin, vwS, gMul, gMod, gDiv, gPow, gI, tdAugS, gdSub, gSet, ixN_2, ixN_3, atI_3, atI_4, gEq_ss, gEq_ii, tdDict, tdPairs, tdNeg, Option.isNone_none, Option.isNone_some, gIsi, tdGet, tdDPut, tdDAug, tdIsN, tdNotN, DO.dic.injEq, Option.isNone_none, Option.isNone_some, gIn_l2, gIn_t2, Option.getD_some, tdLc, gMax, tdNoP, forR, tdRaise, tdCall, tdNotV, tdAndV, tdOrV, tdBox, tdZ, gdTup, gdCons, gdNil, tdBreak, tdCont, tdYes, icast, icast1, icast2, icast3, tdLst, gIn_l4, icastL, icastE, icastZ, ln_0, ln_1, ln_2, ln_3,
  List.getElem?_cons_zero, List.getElem?_cons_succ, List.set_cons_zero, List.set_cons_succ, Option.some.injEq, exists_eq_left', exists_eq_left, D.bl.injEq, decide_eq_true_eq,
  tdFldC, tdMeth, tdMake, tdPutF, tdAugF, D.ref.injEq, DO.ins.injEq, and_assoc, lk_cursor, lp_given, lp_same, lp_either, lp_both, lp_turned, lp_part, lp_definition, icE12, icE200, icS1, DL.gSub, D.int.injEq, D.str.injEq, sup_same, curF_len, eq_self, not_true_eq_false, not_false_eq_true, Bool.false_eq_true, Bool.not_eq_true, decide_not, atIn, atI_0, atI_1, atI_2, List.getElem?_map, Option.map_some, Option.map_none, tokD, decide_true, decide_false, Bool.not_true, Bool.not_false, if_true, if_false, lm_0, lm_1, lm_2, List.length_map, exists_and_left, lk_tokens, lk_length, lk_at, lk_opened, lm_at_end, lm_position, lm_refuse, lm_sees, lm_sees_kind, lm_take, lm_take_kind, lm_accept, lm_expect, lm_seen_of, lm_enter, lm_close, pu_at, pu_opened, *])
variable {P : Program} {w : World} {K : PySem.W.Frag} {mg : Str → Option Value} {base : Heap}
/-- a bound for a written claim's length -/
def Nms : Cl → Prop
  | .word x => Nm x
  | .non => True
  | .not a => Nms a
  | .bin _ a b => Nms a ∧ Nms b
def lenB : Cl → Nat
  | .word x => x.length + 4
  | .non => 8
  | .not a => lenB a + 5
  | .bin _ a b => lenB a + lenB b + 7
structure WsOk (ws : List Tx) : Prop where
  p : 0 < ws.length
  q : ws.length ≤ 10
  l : ∀ x ∈ ws, x.length ≤ 5
  m : ∀ x ∈ ws, Nm x
def m_tree (n : Nat) : M := fun ds S Q E => ∃ a ns ws, ∃ d : Nat, ds = [.ref a, .int (d : Nat)] ∧ d < n ∧ d ≤ 100 ∧ StA a ns ws S ∧ WsOk ws ∧ ∀ (c : Cl) S', depth c ≤ d + 1 → lenB c + 7 ≤ 16 * 2 ^ d → Nms c → Mv a ns ws S S' → Q (clD c) S'
theorem vac_tree (Z : Zf P w K mg base) (k : Nat) : Ca P w K mg base k "_law_tree" ["state", "depth"] (m_tree 0) := by
  obtain ⟨fd, F, hb⟩ := Z.F__law_tree
  exact ⟨_, fd, df_vac fun _ _ _ _ ⟨_, _, _, _, _, h, _⟩ => by omega, Z.g__law_tree, F.kp, hb⟩
theorem d_tree (Z : Zf P w K mg base) (n : Nat) (G : Ca P w K mg base (2 + n) "_law_tree" ["state", "depth"] (m_tree n)) : Ca P w K mg base (2 + n + 1) "_law_tree" ["state", "depth"] (m_tree (n + 1)) := by
  obtain ⟨fd, F, hb⟩ := Z.F__law_tree
  refine ⟨_, fd, df_of (k := 2 + n) F sc__law_tree (fun cdv A outer s H E F0 E' B => (dss_cons (ds_set 2 nd__law_tree (de_if (dt_cmp (od_ord op_gt) (dv 1) de_int rfl) (de_ca (d__law_next Z) (B.mono (by omega)) rfl (da_cons (dv 0) (da_cons de_int da_nil))) de_int))
    (dss_cons (ds_if (dt_cmp (od_ord op_lt) (dv 2) de_int rfl) (dss_one (ds_ret (de_tup (da_cons (de_ix (de_lst (da_cons de_str (da_cons de_str (da_cons de_str (da_cons de_str (da_cons de_str da_nil)))))) (dv 2)) (da_cons (de_ca G (B.mono (by omega)) rfl (da_cons (dv 0) (da_cons (de_op od_sub (dv 1) de_int) da_nil))) (da_cons (de_ca G (B.mono (by omega)) rfl (da_cons (dv 0) (da_cons (de_op od_sub (dv 1) de_int) da_nil))) da_nil)))))) dss_nil)
    (dss_cons (ds_if (dt_cmp (od_eq B.units) (dv 2) de_int rfl) (dss_one (ds_ret (de_tup (da_cons de_str (da_cons (de_ca G (B.mono (by omega)) rfl (da_cons (dv 0) (da_cons (de_op od_sub (dv 1) de_int) da_nil))) da_nil))))) dss_nil)
    (dss_cons (ds_if (dt_cmp (od_eq B.units) (de_ca (d__law_next Z) (B.mono (by omega)) rfl (da_cons (dv 0) (da_cons de_int da_nil))) de_int rfl) (dss_one (ds_ret (de_tup (da_cons de_str da_nil)))) dss_nil)
    (dss_cons (ds_if (dt_cmp (od_eq B.units) (de_ca (d__law_next Z) (B.mono (by omega)) rfl (da_cons (dv 0) (da_cons de_int da_nil))) de_int rfl) (dss_one (ds_ret (de_tup (da_cons de_str (da_cons (de_ca (d__law_drawn Z) (B.mono (by omega)) rfl (da_cons (dv 0) da_nil)) da_nil))))) dss_nil)
    (dss_one (ds_ret (de_tup (da_cons de_str (da_cons (de_ix (de_ix (dv 0) de_int) (de_ca (d__law_next Z) (B.mono (by omega)) rfl (da_cons (dv 0) (da_cons (de_cB oc_len rfl Z.f_len bb_len (da_cons (de_ix (dv 0) de_int) da_nil)) da_nil)))) da_nil))))))))))) ?_, Z.g__law_tree, F.kp, hb⟩
  rintro ds S Q E hl ⟨a, ns, ws, d, rfl, hd, hd2, ho, hws, hq⟩
  rw [show startD N__law_tree [.ref a, .int (d : Nat)] = [some (.ref a), some (.int (d : Nat)), none] from rfl]
  clear hl
  refine seq_cut (fun ρ S' => ∃ r : Nat, ρ = [some (.ref a), some (.int (d : Nat)), some (.int (r : Nat))] ∧ Mv a ns ws S S' ∧ (r < 6 → 0 < d)) (fun Rest hR => ?_) ?_
  · walk_at "rdn"
    cases d with
    | zero =>
      rw [if_neg (by omega)]
      exact hR _ _ ⟨7, rfl, ho.mv, fun z => absurd z (by omega)⟩
    | succ d =>
      rw [if_pos (by omega)]
      exact next_go (lim := 9) ho (by decide) (by decide) fun r S' hr hm => hR _ _ ⟨r, rfl, hm, fun _ => by omega⟩
  · rintro ρ S' ⟨r, rfl, hm, hrd⟩
    walk_at "rdn"
    have pw : 1 ≤ 2 ^ d := Nat.one_le_two_pow
    have leaf : ∀ (c : Cl) S', lenB c ≤ 9 → depth c = 1 → Nms c → Mv a ns ws S S' → Fini Q (clD c) S' := fun c S' h1 h2 h4 h3 => fini (hq c S' (by omega) (by omega) h4 h3)
    by_cases h5 : r < 6
    · obtain ⟨d, rfl⟩ : ∃ d', d = d' + 1 := ⟨d - 1, by have := hrd h5; omega⟩
      have e2 : 2 ^ (d + 1) = 2 * 2 ^ d := by rw [Nat.pow_succ]; omega
      have pw' : 1 ≤ 2 ^ d := Nat.one_le_two_pow
      have sub : ∀ (S1 : Store) (Q' : D → Store → Prop), Mv a ns ws S S1 → (∀ (c : Cl) S2, depth c ≤ d + 1 → lenB c + 7 ≤ 16 * 2 ^ d → Nms c → Mv a ns ws S S2 → Q' (clD c) S2) → m_tree n [.ref a, .int (((d + 1 : Nat) : Int) - 1)] S1 Q' E := fun S1 Q' h1 h2 =>
        ⟨a, ns, ws, d, by rw [icS1], by omega, by omega, h1.st, hws, fun c S2 h3 h4 h6 h5 => h2 c S2 h3 h4 h6 (h1.trans h5)⟩
      by_cases h4 : r < 5
      · rw [if_pos (by omega)]
        obtain ⟨f, hf⟩ : ∃ f : Fm, [D.str (tx "or"), D.str (tx "and"), D.str (tx "given"), D.str (tx "same"), D.str (tx "given")][r]? = some (.str f.t) := by
          obtain rfl | rfl | rfl | rfl | rfl : r = 0 ∨ r = 1 ∨ r = 2 ∨ r = 3 ∨ r = 4 := by omega
          · exact ⟨.or, rfl⟩
          · exact ⟨.and, rfl⟩
          · exact ⟨.given, rfl⟩
          · exact ⟨.same, rfl⟩
          · exact ⟨.given, rfl⟩
        refine ⟨_, hf, sub _ _ hm fun c1 S1 k1 k2 n1 k3 => sub _ _ k3 fun c2 S2 k4 k5 n2 k6 => ?_⟩
        exact fini (hq (.bin f c1 c2) S2 (by show 1 + max _ _ ≤ _; omega) (by show lenB c1 + lenB c2 + 7 + 7 ≤ _; omega) ⟨n1, n2⟩ k6)
      · rw [if_neg (by omega), if_pos (by omega)]
        exact sub _ _ hm fun c1 S1 k1 k2 n1 k3 => fini (hq (.not c1) S1 (by show 1 + depth c1 ≤ _; omega) (by show lenB c1 + 5 + 7 ≤ _; omega) n1 k3)
    · rw [if_neg (by omega), if_neg (by omega)]
      refine next_go (lim := 8) hm.st (by decide) (by decide) fun r2 S2 hr2 hm2 => ?_
      have hm3 := hm.trans hm2
      clear hm hm2
      rw [gEq_ii]
      refine ⟨_, rfl, ?_⟩
      by_cases h7 : (r2 : Int) = 7
      · rw [if_pos (show id (decide ((r2 : Int) = 7)) = true from dt h7)]
        exact leaf .non _ (by decide) rfl True.intro hm3
      · rw [if_neg (show ¬ id (decide ((r2 : Int) = 7)) = true from fun z => h7 (of_decide_eq_true z))]
        refine next_go (lim := 3) hm3.st (by decide) (by decide) fun r3 S3 hr3 hm4 => ?_
        have hm5 := hm3.trans hm4
        clear hm3 hm4
        rw [gEq_ii]
        refine ⟨_, rfl, ?_⟩
        by_cases h8 : (r3 : Int) = 0
        · rw [if_pos (show id (decide ((r3 : Int) = 0)) = true from dt h8)]
          refine ⟨a, ns, ws, rfl, hm5.st, fun x S4 hx hnm hm6 => ?_⟩
          exact leaf (.word x) _ (by show x.length + 4 ≤ 9; omega) rfl hnm (hm5.trans hm6)
        · rw [if_neg (show ¬ id (decide ((r3 : Int) = 0)) = true from fun z => h8 (of_decide_eq_true z))]
          have hst := hm5.st
          obtain ⟨p, big, seed, ho3, _⟩ := hm5.st
          unfold stO stL at ho3
          rw [ho3]
          refine ⟨.lst (ws.map D.str), rfl, .lst (ws.map D.str), rfl, ?_⟩
          show m_law_next [D.ref a, D.int ((ws.map D.str).length : Nat)] S3 _ E
          rw [List.length_map]
          refine next_go hst hws.p (by have := hws.q; omega) fun r4 S4 hr4 hm6 => ?_
          have hg : ws[r4]? = some ws[r4] := List.getElem?_eq_getElem hr4
          refine ⟨.str ws[r4], ?_, ?_⟩
          · show atI (ws.map D.str) ((r4 : Nat) : Int) = _
            rw [atIn, List.getElem?_map, hg]
            rfl
          · have hx := hws.l _ (List.getElem_mem hr4)
            exact leaf (.word ws[r4]) _ (by show ws[r4].length + 4 ≤ 9; omega) rfl (hws.m _ (List.getElem_mem hr4)) (hm5.trans hm6)
theorem trees (Z : Zf P w K mg base) : ∀ n : Nat, Ca P w K mg base (2 + n) "_law_tree" ["state", "depth"] (m_tree n)
  | 0 => vac_tree Z _
  | n + 1 => d_tree Z n (trees Z n)
end K63
namespace K63
open PySem PySem.Spec L2 DL
local macro_rules | `(tactic| walk_at "rdv") => `(tactic| simp only [tdKGet, tdKGet2, tdGet2, tdPop, tdSeq, tdAsg, tdV, gdName, tdAnd, tdOr, tdNot, tdB, tdOp, tdCB, tdCons, tdNil, tdC, tdAug, tdSl, tdP, tdRet, tdTup, tdIf, tdIfS, gOrd, gI0, gI, gLen, gIx, gAdd, gInt, vw, ixP, gSl, tdDrop, tdRetN, tdNext, gIn_sc, gIn_ts, gIn_ls, gIn_t2, gIn_l2, gIn_l4, tdApp, sl_0, sl_1, sl_2, sl_3, sl_4, sl_5, ff, tt', true_and, id,
  eqS, tdFor, tdiT, tdiL, tdiR, tdXp, gList, gEq_ns, tdJoin, gJoin, vwS, gMul, gMod, gDiv, gPow, gI, tdAugS, gdSub, gSet, ixN_2, ixN_3, atI_3, atI_4, gEq_ss, gEq_ii, tdDict, tdPairs, tdNeg, Option.isNone_none, Option.isNone_some, gIsi, tdGet, tdDPut, tdDAug, tdIsN, tdNotN, DO.dic.injEq, Option.isNone_none, Option.isNone_some, gIn_l2, gIn_t2, Option.getD_some, tdLc, gMax, tdNoP, forR, tdRaise, tdCall, tdNotV, tdAndV, tdOrV, tdBox, tdZ, gdTup, gdCons, gdNil, tdBreak, tdCont, tdYes, icast, icast1, icast2, icast3, tdLst, gIn_l4, icastL, icastE, icastZ, ln_0, ln_1, ln_2, ln_3,
  List.getElem?_cons_zero, List.getElem?_cons_succ, List.set_cons_zero, List.set_cons_succ, Option.some.injEq, exists_eq_left', exists_eq_left, D.bl.injEq, decide_eq_true_eq,
  tdFldC, tdMeth, tdMake, tdPutF, tdAugF, D.ref.injEq, DO.ins.injEq, and_assoc, lk_cursor, lp_given, lp_same, lp_either, lp_both, lp_turned, lp_part, lp_definition, icE12, icE200, icS1, DL.gSub, D.int.injEq, D.str.injEq, sup_same, curF_len, eq_self, not_true_eq_false, not_false_eq_true, Bool.false_eq_true, Bool.not_eq_true, decide_not, atIn, atI_0, atI_1, atI_2, List.getElem?_map, Option.map_some, Option.map_none, tokD, decide_true, decide_false, Bool.not_true, Bool.not_false, if_true, if_false, lm_0, lm_1, lm_2, List.length_map, exists_and_left, lk_tokens, lk_length, lk_at, lk_opened, lm_at_end, lm_position, lm_refuse, lm_sees, lm_sees_kind, lm_take, lm_take_kind, lm_accept, lm_expect, lm_seen_of, lm_enter, lm_close, pu_at, pu_opened, *])
variable {P : Program} {w : World} {K : PySem.W.Frag} {mg : Str → Option Value} {base : Heap}
def lineF : Fm → Nat
  | .same => 1
  | .given => 2
  | .or => 3
  | .and => 4
def lineC : Cl → Nat
  | .word _ => 6
  | .non => 6
  | .not _ => 5
  | .bin f _ _ => lineF f
def markF : Fm → Tx
  | .same => tx "<->"
  | .given => tx "->"
  | .or => tx "|"
  | .and => tx "&"
def markS : Fm → Tx
  | .same => tx " <-> "
  | .given => tx " -> "
  | .or => tx " | "
  | .and => tx " & "
def leftF : Fm → Nat
  | .same => 2
  | .given => 3
  | .or => 3
  | .and => 4
def rightF : Fm → Nat
  | .same => 2
  | .given => 2
  | .or => 4
  | .and => 5
def par (b : Bool) (t : Tx) : Tx := if b = true then tx "(" ++ t ++ tx ")" else t
def wr : Cl → Tx
  | .word x => x
  | .non => tx "none"
  | .not a => tx "~" ++ par (decide (lineC a < 5)) (wr a)
  | .bin f a b => par (decide (lineC a < leftF f)) (wr a) ++ markS f ++ par (decide (lineC b < rightF f)) (wr b)
def wrW (c : Cl) (line : Nat) : Tx := par (decide (lineC c < line)) (wr c)
theorem par_len (b : Bool) (t : Tx) : (par b t).length ≤ t.length + 2 := by
  unfold par
  split
  · rw [List.length_append, List.length_append]
    show 1 + t.length + 1 ≤ _
    omega
  · omega
theorem markS_len (f : Fm) : (markS f).length ≤ 5 := by cases f <;> decide
theorem wr_len : ∀ c : Cl, (wr c).length + 2 ≤ lenB c
  | .word x => by show x.length + 2 ≤ x.length + 4; omega
  | .non => by decide
  | .not a => by
    have h1 := wr_len a
    have h2 := par_len (decide (lineC a < 5)) (wr a)
    show (tx "~" ++ _).length + 2 ≤ lenB a + 5
    rw [List.length_append, show (tx "~").length = 1 from rfl]
    omega
  | .bin f a b => by
    have h1 := wr_len a
    have h2 := par_len (decide (lineC a < leftF f)) (wr a)
    have h3 := wr_len b
    have h4 := par_len (decide (lineC b < rightF f)) (wr b)
    have h5 := markS_len f
    show (par (decide (lineC a < leftF f)) (wr a) ++ markS f ++ par (decide (lineC b < rightF f)) (wr b)).length + 2 ≤ lenB a + lenB b + 7
    rw [List.length_append, List.length_append]
    omega
theorem lenB_lt {a : Cl} : ∀ {n : Nat}, lenB a ≤ n → lenB a ≤ n := fun h => h
def headT : Cl → Tx
  | .word _ => tx "word"
  | .non => tx "none"
  | .not _ => tx "not"
  | .bin f _ _ => f.t
def tailD : Cl → List D
  | .word x => [.str x]
  | .non => []
  | .not a => [clD a]
  | .bin _ a b => [clD a, clD b]
theorem clD_head : ∀ c : Cl, clD c = .tup (.str (headT c) :: tailD c)
  | .word _ => rfl
  | .non => rfl
  | .not _ => rfl
  | .bin _ _ _ => rfl
theorem ft_w (f : Fm) {a b : Cl} : ¬ headT (.bin f a b) = tx "word" := show ¬ f.t = tx "word" by cases f <;> decide
theorem ft_n (f : Fm) {a b : Cl} : ¬ headT (.bin f a b) = tx "none" := show ¬ f.t = tx "none" by cases f <;> decide
theorem ft_t (f : Fm) {a b : Cl} : ¬ headT (.bin f a b) = tx "not" := show ¬ f.t = tx "not" by cases f <;> decide
theorem tn_w {a : Cl} : ¬ headT (.not a) = tx "word" := show ¬ tx "not" = tx "word" by decide
theorem tn_n {a : Cl} : ¬ headT (.not a) = tx "none" := show ¬ tx "not" = tx "none" by decide
theorem nn_w : ¬ headT .non = tx "word" := show ¬ tx "none" = tx "word" by decide
theorem lk_marks (f : Fm) : kv_MARKS.lookup f.t = some (some (.str (markS f))) := by cases f <;> rfl
def m_line_of : M := fun ds S Q E => ∃ c : Cl, ds = [clD c] ∧ Q (.int (lineC c : Nat)) S
theorem d_line_of (Z : Zf P w K mg base) : Ca P w K mg base 1 "line_of" ["claim"] m_line_of := by
  obtain ⟨fd, F, hb⟩ := Z.F_line_of
  refine ⟨_, fd, df_of (k := 0) F sc_line_of (fun cdv A outer s H E F0 E' B => (dss_one (ds_ret (de_kget2 Z.d_LINES rfl Z.g_LINES (de_ix (dv 0) de_int) de_int)))) ?_, Z.g_line_of, F.kp, hb⟩
  rintro ds S Q E hl ⟨c, rfl, hq⟩
  rw [show startD N_line_of [clD c] = [some (clD c)] from rfl]
  clear hl
  cases c with
  | word x =>
    unfold clD
    walk_at "rdv"
    exact ⟨_, rfl, fini hq⟩
  | non =>
    unfold clD
    walk_at "rdv"
    exact ⟨_, rfl, fini hq⟩
  | not a =>
    unfold clD
    walk_at "rdv"
    exact ⟨_, rfl, fini hq⟩
  | bin f a b =>
    unfold clD
    walk_at "rdv"
    cases f with
    | same => exact ⟨_, rfl, fini hq⟩
    | given => exact ⟨_, rfl, fini hq⟩
    | or => exact ⟨_, rfl, fini hq⟩
    | and => exact ⟨_, rfl, fini hq⟩
def m_write (n : Nat) : M := fun ds S Q E => ∃ c : Cl, ds = [clD c] ∧ depth c ≤ n ∧ lenB c ≤ 5000 ∧ Q (.str (wr c)) S
def m_within (n : Nat) : M := fun ds S Q E => ∃ (c : Cl) (line : Nat), ds = [clD c, .int (line : Nat)] ∧ depth c ≤ n ∧ lenB c ≤ 5000 ∧ Q (.str (wrW c line)) S
theorem d_within (Z : Zf P w K mg base) (n : Nat) (G : Ca P w K mg base (2 * n + 2) "write_claim" ["claim"] (m_write n)) : Ca P w K mg base (2 * n + 3) "write_within" ["claim", "line"] (m_within n) := by
  obtain ⟨fd, F, hb⟩ := Z.F_write_within
  refine ⟨_, fd, df_of (k := 2 * n + 2) F sc_write_within (fun cdv A outer s H E F0 E' B => (dss_cons (ds_set 2 nd_write_within (de_ca G (B.mono (by omega)) rfl (da_cons (dv 0) da_nil)))
    (dss_one (ds_ret (de_if (dt_cmp (od_ord op_lt) (de_ca (d_line_of Z) (B.mono (by omega)) rfl (da_cons (dv 0) da_nil)) (dv 1) rfl) (de_op od_add (de_op od_add de_str (dv 2)) de_str) (dv 2)))))) ?_, Z.g_write_within, F.kp, hb⟩
  rintro ds S Q E hl ⟨c, line, rfl, hd, hlen, hq⟩
  rw [show startD N_write_within [clD c, .int (line : Nat)] = [some (clD c), some (.int (line : Nat)), none] from rfl]
  clear hl
  walk_at "rdv"
  have h1 := wr_len c
  refine ⟨c, rfl, hd, hlen, ⟨c, rfl, ?_⟩⟩
  walk_at "rdv"
  unfold wrW par at hq
  by_cases hlt : lineC c < line
  · rw [if_pos (by omega)]
    rw [if_pos (dt hlt)] at hq
    have e : (tx "(" ++ wr c).length = 1 + (wr c).length := by rw [List.length_append]; rfl
    exact ⟨sz5 (show 1 + (wr c).length ≤ _ by omega), sz5 (show (tx "(" ++ wr c).length + 1 ≤ _ by omega), fini hq⟩
  · rw [if_neg (by omega)]
    rw [if_neg (by rw [df hlt]; decide)] at hq
    exact fini hq
theorem d_write_claim (Z : Zf P w K mg base) (n : Nat) (G : Ca P w K mg base (2 * n + 3) "write_within" ["claim", "line"] (m_within n)) : Ca P w K mg base (2 * n + 4) "write_claim" ["claim"] (m_write (n + 1)) := by
  obtain ⟨fd, F, hb⟩ := Z.F_write_claim
  refine ⟨_, fd, df_of (k := 2 * n + 3) F sc_write_claim (fun cdv A outer s H E F0 E' B => (dss_cons (ds_set 1 nd_write_claim (de_ix (dv 0) de_int))
    (dss_cons (ds_if (dt_cmp (od_eq B.units) (dv 1) de_str rfl) (dss_one (ds_ret (de_ix (dv 0) de_int))) dss_nil)
    (dss_cons (ds_if (dt_cmp (od_eq B.units) (dv 1) de_str rfl) (dss_one (ds_ret de_str)) dss_nil)
    (dss_cons (ds_set 2 nd_write_claim (de_ca (d_line_of Z) (B.mono (by omega)) rfl (da_cons (dv 0) da_nil)))
    (dss_cons (ds_if (dt_cmp (od_eq B.units) (dv 1) de_str rfl) (dss_one (ds_ret (de_op od_add de_str (de_ca G (B.mono (by omega)) rfl (da_cons (de_ix (dv 0) de_int) (da_cons (dv 2) da_nil)))))) dss_nil)
    (dss_cons (ds_set 3 nd_write_claim (de_if (dt_cmp od_in (dv 1) (de_tup (da_cons de_str (da_cons de_str da_nil))) rfl) (dv 2) (de_op od_add (dv 2) de_int)))
    (dss_cons (ds_set 4 nd_write_claim (de_if (dt_cmp (od_eq B.units) (dv 1) de_str rfl) (dv 2) (de_op od_add (dv 2) de_int)))
    (dss_one (ds_ret (de_op od_add (de_op od_add (de_ca G (B.mono (by omega)) rfl (da_cons (de_ix (dv 0) de_int) (da_cons (dv 3) da_nil))) (de_kget Z.d_MARKS rfl Z.g_MARKS (dv 1))) (de_ca G (B.mono (by omega)) rfl (da_cons (de_ix (dv 0) de_int) (da_cons (dv 4) da_nil)))))))))))))) ?_, Z.g_write_claim, F.kp, hb⟩
  rintro ds S Q E hl ⟨c, rfl, hd, hlen, hq⟩
  rw [show startD N_write_claim [clD c] = [some (clD c), none, none, none, none] from rfl]
  clear hl
  refine seq_cut (fun ρ S' => ρ = [some (clD c), some (.str (headT c)), none, none, none] ∧ S' = S) (fun Rest hR => ?_) ?_
  · rw [clD_head]
    walk_at "rdv"
    rw [← clD_head]
    exact hR _ _ ⟨rfl, rfl⟩
  rintro ρ S' ⟨rfl, rfl⟩
  refine seq_cut (fun ρ S1 => (∀ x, c ≠ .word x) ∧ ρ = [some (clD c), some (.str (headT c)), none, none, none] ∧ S1 = S') (fun Rest hR => ?_) ?_
  · walk_at "rdv"
    cases c with
    | word x =>
      rw [show headT (.word x) = tx "word" from rfl, show clD (.word x) = .tup [.str (tx "word"), .str x] from rfl]
      rw [if_pos rfl]
      walk_at "rdv"
      exact fini hq
    | non => rw [if_neg nn_w]; exact hR _ _ ⟨fun x z => (nomatch z), rfl, rfl⟩
    | not a => rw [if_neg tn_w]; exact hR _ _ ⟨fun x z => (nomatch z), rfl, rfl⟩
    | bin f a b => rw [if_neg (ft_w f)]; exact hR _ _ ⟨fun x z => (nomatch z), rfl, rfl⟩
  rintro ρ S1 ⟨hc1, rfl, rfl⟩
  refine seq_cut (fun ρ S2 => c ≠ .non ∧ ρ = [some (clD c), some (.str (headT c)), none, none, none] ∧ S2 = S1) (fun Rest hR => ?_) ?_
  · walk_at "rdv"
    cases c with
    | word x => exact absurd rfl (hc1 x)
    | non => rw [if_pos (show headT .non = tx "none" from rfl)]; exact fini hq
    | not a => rw [if_neg tn_n]; exact hR _ _ ⟨fun z => (nomatch z), rfl, rfl⟩
    | bin f a b => rw [if_neg (ft_n f)]; exact hR _ _ ⟨fun z => (nomatch z), rfl, rfl⟩
  rintro ρ S2 ⟨hc2, rfl, rfl⟩
  refine seq_cut (fun ρ S3 => ρ = [some (clD c), some (.str (headT c)), some (.int (lineC c : Nat)), none, none] ∧ S3 = S2) (fun Rest hR => ?_) ?_
  · walk_at "rdv"
    exact ⟨c, rfl, hR _ _ ⟨rfl, rfl⟩⟩
  rintro ρ S3 ⟨rfl, rfl⟩
  refine seq_cut (fun ρ S4 => (∃ f a b, c = .bin f a b) ∧ ρ = [some (clD c), some (.str (headT c)), some (.int (lineC c : Nat)), none, none] ∧ S4 = S3) (fun Rest hR => ?_) ?_
  · walk_at "rdv"
    cases c with
    | word x => exact absurd rfl (hc1 x)
    | non => exact absurd rfl hc2
    | not a =>
      have hd' : 1 + depth a ≤ n + 1 := hd
      have hlen' : lenB a + 5 ≤ 5000 := hlen
      rw [if_pos (show headT (.not a) = tx "not" from rfl), show clD (.not a) = .tup [.str (tx "not"), clD a] from rfl]
      walk_at "rdv"
      refine ⟨a, 5, rfl, by omega, by omega, ?_⟩
      have h1 := wr_len a
      have h2 := par_len (decide (lineC a < 5)) (wr a)
      show (tx "~").length + (wrW a 5).length ≤ sizeLine ∧ Fini Q _ _
      exact ⟨sz5 (show 1 + (par _ _).length ≤ _ by omega), fini hq⟩
    | bin f a b => rw [if_neg (ft_t f)]; exact hR _ _ ⟨⟨f, a, b, rfl⟩, rfl, rfl⟩
  rintro ρ S4 ⟨⟨f, a, b, rfl⟩, rfl, rfl⟩
  clear hc1 hc2
  rw [show [some (clD (.bin f a b)), some (D.str (headT (.bin f a b))), some (.int (lineC (.bin f a b) : Nat)), none, none] = [some (clD (.bin f a b)), some (.str f.t), some (.int (lineF f : Nat)), none, none] from rfl]
  refine seq_cut (fun ρ S5 => ρ = [some (clD (.bin f a b)), some (.str f.t), some (.int (lineF f : Nat)), some (.int (leftF f : Nat)), none] ∧ S5 = S4) (fun Rest hR => ?_) ?_
  · cases f with
    | same => walk_at "rdv"; rw [if_neg (show ¬ (Fm.same.t ∈ [tx "or", tx "and"]) by decide)]; exact hR _ _ ⟨rfl, rfl⟩
    | given => walk_at "rdv"; rw [if_neg (show ¬ (Fm.given.t ∈ [tx "or", tx "and"]) by decide)]; exact hR _ _ ⟨rfl, rfl⟩
    | or => walk_at "rdv"; rw [if_pos (show (Fm.or.t ∈ [tx "or", tx "and"]) by decide)]; exact hR _ _ ⟨rfl, rfl⟩
    | and => walk_at "rdv"; rw [if_pos (show (Fm.and.t ∈ [tx "or", tx "and"]) by decide)]; exact hR _ _ ⟨rfl, rfl⟩
  rintro ρ S5 ⟨rfl, rfl⟩
  refine seq_cut (fun ρ S6 => ρ = [some (clD (.bin f a b)), some (.str f.t), some (.int (lineF f : Nat)), some (.int (leftF f : Nat)), some (.int (rightF f : Nat))] ∧ S6 = S5) (fun Rest hR => ?_) ?_
  · cases f with
    | same => walk_at "rdv"; rw [if_neg (show ¬ (Fm.same.t = tx "given") by decide)]; exact hR _ _ ⟨rfl, rfl⟩
    | given => walk_at "rdv"; rw [if_pos (show (Fm.given.t = tx "given") by decide)]; exact hR _ _ ⟨rfl, rfl⟩
    | or => walk_at "rdv"; rw [if_neg (show ¬ (Fm.or.t = tx "given") by decide)]; exact hR _ _ ⟨rfl, rfl⟩
    | and => walk_at "rdv"; rw [if_neg (show ¬ (Fm.and.t = tx "given") by decide)]; exact hR _ _ ⟨rfl, rfl⟩
  rintro ρ S6 ⟨rfl, rfl⟩
  have hd' : 1 + max (depth a) (depth b) ≤ n + 1 := hd
  have hlen' : lenB a + lenB b + 7 ≤ 5000 := hlen
  have h1 := wr_len a
  have h2 := par_len (decide (lineC a < leftF f)) (wr a)
  have h3 := wr_len b
  have h4 := par_len (decide (lineC b < rightF f)) (wr b)
  have h5 := markS_len f
  have e1 : (wrW a (leftF f) ++ markS f).length = (wrW a (leftF f)).length + (markS f).length := List.length_append
  have last : (wrW a (leftF f)).length + (markS f).length ≤ sizeLine ∧ (wrW a (leftF f) ++ markS f).length + (wrW b (rightF f)).length ≤ sizeLine := by
    rw [e1]
    exact ⟨sz5 (show (par _ _).length + _ ≤ _ by omega), sz5 (show (par _ _).length + _ + (par _ _).length ≤ _ by omega)⟩
  clear h1 h2 h3 h4 h5 e1
  rw [show clD (.bin f a b) = .tup [.str f.t, clD a, clD b] from rfl]
  walk_at "rdv"
  refine ⟨a, leftF f, rfl, by omega, by omega, .str (markS f), lk_marks f, last.1, b, rightF f, rfl, by omega, by omega, last.2, fini hq⟩
theorem vac_write (Z : Zf P w K mg base) (k : Nat) : Ca P w K mg base k "write_claim" ["claim"] (m_write 0) := by
  obtain ⟨fd, F, hb⟩ := Z.F_write_claim
  exact ⟨_, fd, df_vac fun _ _ _ _ ⟨c, _, h, _⟩ => by have := depth_pos c; omega, Z.g_write_claim, F.kp, hb⟩
theorem writes (Z : Zf P w K mg base) : ∀ n : Nat, Ca P w K mg base (2 * n + 2) "write_claim" ["claim"] (m_write n)
  | 0 => vac_write Z _
  | n + 1 => d_write_claim Z n (d_within Z n (writes Z n))
def m_definition_w : M := fun ds S Q E => ∃ (s n : Tx) (c : Cl), ds = [.tup [.str s, .str n, clD c]] ∧ s.length ≤ 10 ∧ n.length ≤ 10 ∧ depth c ≤ 9 ∧ lenB c ≤ 5000 ∧ Q (.str (s ++ tx " " ++ n ++ tx " = " ++ wr c)) S
theorem d_write_definition (Z : Zf P w K mg base) : Ca P w K mg base 21 "write_definition" ["tree"] m_definition_w := by
  obtain ⟨fd, F, hb⟩ := Z.F_write_definition
  refine ⟨_, fd, df_of (k := 20) F sc_write_definition (fun cdv A outer s H E F0 E' B => (dss_one (ds_ret (de_op od_add (de_op od_add (de_op od_add (de_op od_add (de_ix (dv 0) de_int) de_str) (de_ix (dv 0) de_int)) de_str) (de_ca (writes Z 9) (B.mono (by omega)) rfl (da_cons (de_ix (dv 0) de_int) da_nil)))))) ?_, Z.g_write_definition, F.kp, hb⟩
  rintro ds S Q E hl ⟨s, n, c, rfl, hs, hn, hd, hlen, hq⟩
  rw [show startD N_write_definition [.tup [.str s, .str n, clD c]] = [some (.tup [.str s, .str n, clD c])] from rfl]
  clear hl
  walk_at "rdv"
  have h1 := wr_len c
  have l1 : (s ++ tx " ").length = s.length + 1 := by rw [List.length_append]; rfl
  have l2 : (s ++ tx " " ++ n).length = s.length + 1 + n.length := by rw [List.length_append, l1]
  have l3 : (s ++ tx " " ++ n ++ tx " = ").length = s.length + 1 + n.length + 3 := by rw [List.length_append, l2]; rfl
  refine ⟨sz5 (show s.length + 1 ≤ _ by omega), sz5 (show (s ++ tx " ").length + n.length ≤ _ by omega), sz5 (show (s ++ tx " " ++ n).length + 3 ≤ _ by omega), c, rfl, by omega, hlen, ?_⟩
  exact ⟨sz5 (show (s ++ tx " " ++ n ++ tx " = ").length + (wr c).length ≤ _ by omega), fini hq⟩
end K63
namespace K63
open PySem PySem.Spec L2 DL
abbrev KV : Type := Tx × Tx
def sg (x : Tx) : KV := (tx "sign", x)
def parK (b : Bool) (l : List KV) : List KV := if b = true then sg (tx "(") :: (l ++ [sg (tx ")")]) else l
def core : Cl → List KV
  | .word x => [(tx "name", x)]
  | .non => [(tx "keyword", tx "none")]
  | .not a => sg (tx "~") :: parK (decide (lineC a < 5)) (core a)
  | .bin f a b => parK (decide (lineC a < leftF f)) (core a) ++ sg (markF f) :: parK (decide (lineC b < rightF f)) (core b)
def tkk (c : Cl) (n : Nat) : List KV := parK (decide (lineC c < n)) (core c)
/-- how many are open at most -/
def moc : Cl → Nat
  | .word _ => 0
  | .non => 0
  | .not a => (if lineC a < 5 then 1 else 0) + moc a
  | .bin f a b => max ((if lineC a < leftF f then 1 else 0) + moc a) ((if lineC b < rightF f then 1 else 0) + moc b)
def mo (c : Cl) (n : Nat) : Nat := (if lineC c < n then 1 else 0) + moc c
def kv (k : Tok) : KV := (k.1, k.2.1)
section
variable {l : List Tok} {len : Nat}
def Has (l : List Tok) (a : Nat) (s : List KV) : Prop := ∃ r, (l.map kv).drop a = s ++ r
theorem Has.left {a : Nat} {s t : List KV} (h : Has l a (s ++ t)) : Has l a s := by
  obtain ⟨r, e⟩ := h
  exact ⟨t ++ r, by rw [e, List.append_assoc]⟩
theorem Has.right {a : Nat} {s t : List KV} (h : Has l a (s ++ t)) : Has l (a + s.length) t := by
  obtain ⟨r, e⟩ := h
  refine ⟨r, ?_⟩
  rw [← List.drop_drop, e, List.append_assoc, List.drop_left]
theorem Has.tail {a : Nat} {x : KV} {s : List KV} (h : Has l a (x :: s)) : Has l (a + 1) s := Has.right (s := [x]) h
theorem Has.one {a : Nat} {x : KV} {s : List KV} (h : Has l a (x :: s)) : ∃ k, l[a]? = some k ∧ kv k = x := by
  obtain ⟨r, e⟩ := h
  have h1 : ((l.map kv).drop a)[0]? = some x := by rw [e]; rfl
  rw [List.getElem?_drop, List.getElem?_map] at h1
  cases hk : l[a + 0]? with
  | none => rw [hk] at h1; cases h1
  | some k =>
    rw [hk] at h1
    exact ⟨k, rfl, Option.some.inj h1⟩
theorem Has.lt {a : Nat} {x : KV} {s : List KV} (h : Has l a (x :: s)) : a < l.length := by
  obtain ⟨k, h1, _⟩ := h.one
  exact (List.getElem?_eq_some_iff.mp h1).1
theorem sees_at {a : Nat} {x : KV} {s : List KV} {y : Tx} (h : Has l a (x :: s)) : seesW l a y = (decide (x.1 ∈ [tx "keyword", tx "sign"]) && decide (x.2 = y)) := by
  obtain ⟨k, h1, rfl⟩ := h.one
  unfold seesW
  rw [h1]
  rfl
theorem kind_at {a : Nat} {x : KV} {s : List KV} {y : Tx} (h : Has l a (x :: s)) : kindW l a y = decide (x.1 = y) := by
  obtain ⟨k, h1, rfl⟩ := h.one
  unfold kindW
  rw [h1]
  rfl
theorem take_at {a o : Nat} {x : KV} {s : List KV} (h : Has l a (x :: s)) (ha : a < 200) : takeR l len a o = .ok (.str x.2, a + 1, o) := by
  obtain ⟨k, h1, rfl⟩ := h.one
  unfold takeR
  rw [h1]
  dsimp only
  rw [if_neg (by omega)]
  rfl
/-- no mark that goes on at a line -/
structure Stops (l : List Tok) (a line : Nat) : Prop where
  s1 : line ≤ 1 → seesW l a (tx "<->") = false
  s2 : line ≤ 2 → seesW l a (tx "->") = false
  s3 : line ≤ 3 → seesW l a (tx "|") = false
  s4 : line ≤ 4 → seesW l a (tx "&") = false
theorem Stops.up {a i j : Nat} (h : Stops l a i) (hij : i ≤ j) : Stops l a j := ⟨fun z => h.s1 (by omega), fun z => h.s2 (by omega), fun z => h.s3 (by omega), fun z => h.s4 (by omega)⟩
/-- behind a part stands the mark of a line below -/
theorem stops_mark {a i : Nat} {f : Fm} {s : List KV} (h : Has l a (sg (markF f) :: s)) (hi : lineF f < i) : Stops l a i := by
  refine ⟨fun z => ?_, fun z => ?_, fun z => ?_, fun z => ?_⟩
  all_goals
    rw [sees_at h]
    cases f
    all_goals first
      | (exfalso; simp only [lineF] at hi; omega; done)
      | (show (decide (tx "sign" ∈ [tx "keyword", tx "sign"]) && decide (_ = _)) = false; decide)
theorem stops_close {a i : Nat} {s : List KV} (h : Has l a (sg (tx ")") :: s)) : Stops l a i := by
  refine ⟨fun z => ?_, fun z => ?_, fun z => ?_, fun z => ?_⟩
  all_goals
    rw [sees_at h]
    decide
theorem stops_end {i : Nat} (a : Nat) (h : l.length ≤ a) : Stops l a i := by
  have e : l[a]? = none := List.getElem?_eq_none h
  have key : ∀ y, seesW l a y = false := fun y => by unfold seesW; rw [e]
  exact ⟨fun _ => key _, fun _ => key _, fun _ => key _, fun _ => key _⟩
theorem tkk_eq {c : Cl} {n : Nat} (h : lineC c ≠ n) : tkk c (n + 1) = tkk c n := by
  unfold tkk
  have e : decide (lineC c < n + 1) = decide (lineC c < n) := by
    by_cases z : lineC c < n
    · rw [decide_eq_true z, decide_eq_true (by omega)]
    · rw [decide_eq_false z, decide_eq_false (by omega)]
  rw [e]
theorem mo_eq {c : Cl} {n : Nat} (h : lineC c ≠ n) : mo c (n + 1) = mo c n := by
  unfold mo
  by_cases z : lineC c < n
  · rw [if_pos z, if_pos (by omega)]
  · rw [if_neg z, if_neg (by omega)]
theorem tkk_own (c : Cl) (n : Nat) (h : n ≤ lineC c) : tkk c n = core c := by
  unfold tkk parK
  rw [if_neg (by rw [decide_eq_false (by omega)]; decide)]
theorem mo_own (c : Cl) (n : Nat) (h : n ≤ lineC c) : mo c n = moc c := by
  unfold mo
  rw [if_neg (by omega), Nat.zero_add]
theorem core_pos : ∀ c : Cl, 1 ≤ (core c).length
  | .word _ => Nat.le_refl _
  | .non => Nat.le_refl _
  | .not _ => by show 1 ≤ (_ :: _).length; simp
  | .bin f a b => by show 1 ≤ (_ ++ _ :: _).length; simp; omega
theorem tkk_pos (c : Cl) (n : Nat) : 1 ≤ (tkk c n).length := by
  unfold tkk parK
  split
  · simp
  · exact core_pos c
/-- what the reader of a line gives -/
def Reads (l : List Tok) (len n line a o : Nat) (c : Cl) : Prop := rd l len n line a o = some (.ok (c, a + (tkk c line).length, o))
/-- where it must -/
structure Fits (l : List Tok) (n line a o : Nat) (c : Cl) : Prop where
  m : (200 - a) + 5 * (12 - o) + (6 - line) < n
  has : Has l a (tkk c line)
  sz : a + (tkk c line).length ≤ 200
  op : o + mo c line ≤ 12
  st : Stops l (a + (tkk c line).length) line
theorem Fits.same {n line a o : Nat} {c : Cl} (h : Fits l (n + 1) line a o c) (hne : lineC c ≠ line) (h5 : line ≤ 5) : Fits l n (line + 1) a o c where
  m := by have := h.m; have := h.sz; have := tkk_pos c line; omega
  has := by rw [tkk_eq hne]; exact h.has
  sz := by rw [tkk_eq hne]; exact h.sz
  op := by rw [mo_eq hne]; exact h.op
  st := by rw [tkk_eq hne]; exact h.st.up (by omega)
theorem step_at {a o : Nat} {x : KV} {s : List KV} {f : D → Nat → Nat → Rd} (h : Has l a (x :: s)) (ha : a < 200) : step (takeR l len a o) f = f (.str x.2) (a + 1) o := by
  rw [take_at h ha]
  rfl
theorem spine {n line : Nat} {f : Fm} (hf : lineF f = line) (hl : leftF f = line) (hr : rightF f = line + 1)
    (hrd : ∀ a o, rd l len (n + 1) line a o = bindR (rd l len n (line + 1) a o) fun c a o => loopR l len (rd l len n (line + 1)) (markF f) f 201 c a o)
    (ih : ∀ a o c, Fits l n (line + 1) a o c → Reads l len n (line + 1) a o c) :
    ∀ (c : Cl) (a o : Nat), (200 - a) + 5 * (12 - o) + (6 - line) < n + 1 → Has l a (tkk c line) → a + (tkk c line).length ≤ 200 → o + mo c line ≤ 12 → Stops l (a + (tkk c line).length) (line + 1) →
      ∃ j, 201 ≤ j + (tkk c line).length ∧ rd l len (n + 1) line a o = loopR l len (rd l len n (line + 1)) (markF f) f j c (a + (tkk c line).length) o := by
  intro c
  have other : ∀ (c : Cl) (a o : Nat), lineC c ≠ line → (200 - a) + 5 * (12 - o) + (6 - line) < n + 1 → Has l a (tkk c line) → a + (tkk c line).length ≤ 200 → o + mo c line ≤ 12 → Stops l (a + (tkk c line).length) (line + 1) →
      ∃ j, 201 ≤ j + (tkk c line).length ∧ rd l len (n + 1) line a o = loopR l len (rd l len n (line + 1)) (markF f) f j c (a + (tkk c line).length) o := by
    intro c a o hne h1 h2 h3 h4 h5
    refine ⟨201, by omega, ?_⟩
    have hl4 : line ≤ 4 := by rw [← hf]; cases f <;> decide
    have h6 := ih a o c ⟨by have := tkk_pos c line; omega, by rw [tkk_eq hne]; exact h2, by rw [tkk_eq hne]; exact h3, by rw [mo_eq hne]; exact h4, by rw [tkk_eq hne]; exact h5⟩
    unfold Reads at h6
    rw [hrd, h6, tkk_eq hne]
    rfl
  induction c with
  | word x => exact fun a o h1 h2 h3 h4 h5 => other _ a o (by have : lineC (.word x) = 6 := rfl; have : lineF f ≤ 4 := by cases f <;> decide
                                                              omega) h1 h2 h3 h4 h5
  | non => exact fun a o h1 h2 h3 h4 h5 => other _ a o (by have : lineC .non = 6 := rfl; have : lineF f ≤ 4 := by cases f <;> decide
                                                           omega) h1 h2 h3 h4 h5
  | not p _ => exact fun a o h1 h2 h3 h4 h5 => other _ a o (by have : lineC (.not p) = 5 := rfl; have : lineF f ≤ 4 := by cases f <;> decide
                                                               omega) h1 h2 h3 h4 h5
  | bin g p q ihp ihq =>
    intro a o h1 h2 h3 h4 h5
    by_cases hg : lineF g = line
    · have egf : g = f := by
        rw [← hf] at hg
        cases g <;> cases f <;> first
          | rfl
          | (exfalso; simp only [lineF] at hg; omega)
      subst egf
      have e1 : tkk (.bin g p q) line = tkk p line ++ sg (markF g) :: tkk q (line + 1) := by
        rw [tkk_own _ _ (show line ≤ lineF g by omega)]
        show parK _ _ ++ _ :: parK _ _ = _
        rw [hl, hr]
        rfl
      have e2 : mo (.bin g p q) line = max (mo p line) (mo q (line + 1)) := by
        rw [mo_own _ _ (show line ≤ lineF g by omega)]
        show max (_ + _) (_ + _) = _
        rw [hl, hr]
        rfl
      rw [e1] at h2 h3 h5 ⊢
      rw [e2] at h4
      have e3 : (tkk p line ++ sg (markF g) :: tkk q (line + 1)).length = (tkk p line).length + 1 + (tkk q (line + 1)).length := by
        rw [List.length_append, List.length_cons]; omega
      rw [e3] at h3 h5 ⊢
      have hm := h2.right
      have hq := hm.tail
      obtain ⟨j, j1, j2⟩ := ihp a o h1 h2.left (by omega) (by omega) (stops_mark hm (by omega))
      have hp1 := tkk_pos p line
      obtain ⟨j, rfl⟩ : ∃ j', j = j' + 1 := ⟨j - 1, by omega⟩
      refine ⟨j, by omega, ?_⟩
      rw [j2]
      show (if seesW l (a + (tkk p line).length) (markF g) = true then _ else _) = _
      rw [if_pos (by rw [sees_at hm]; show (decide (tx "sign" ∈ [tx "keyword", tx "sign"]) && decide (markF g = markF g)) = true; simp)]
      rw [step_at hm (by omega)]
      have hb := ih (a + (tkk p line).length + 1) o q ⟨by omega, hq, by omega, by omega, by
        have e4 : a + (tkk p line).length + 1 + (tkk q (line + 1)).length = a + ((tkk p line).length + 1 + (tkk q (line + 1)).length) := by omega
        rw [e4]; exact h5⟩
      unfold Reads at hb
      rw [hb]
      show loopR l len _ _ _ j (.bin g p q) _ o = _
      congr 1
      omega
    · exact other _ a o hg h1 h2 h3 h4 h5
theorem lift {n line a o a' : Nat} {c : Cl} (h1 : 1 ≤ line) (h4 : line ≤ 4) (h : rd l len n (line + 1) a o = some (.ok (c, a', o))) (st : Stops l a' line) : rd l len (n + 1) line a o = some (.ok (c, a', o)) := by
  obtain rfl | rfl | rfl | rfl : line = 1 ∨ line = 2 ∨ line = 3 ∨ line = 4 := by omega
  · rw [rd_1, h, bind_some, if_neg (by rw [st.s1 (Nat.le_refl _)]; decide)]
  · rw [rd_2, h, bind_some, if_neg (by rw [st.s2 (Nat.le_refl _)]; decide)]
  · rw [rd_3, h, bind_some]
    show (if _ then _ else _) = _
    rw [if_neg (by rw [st.s3 (Nat.le_refl _)]; decide)]
  · rw [rd_4, h, bind_some]
    show (if _ then _ else _) = _
    rw [if_neg (by rw [st.s4 (Nat.le_refl _)]; decide)]
theorem reads : ∀ (n line a o : Nat) (c : Cl), 1 ≤ line → line ≤ 5 → Fits l n line a o c → Reads l len n line a o c := by
  intro n
  induction n using Nat.strongRecOn with
  | ind n ih =>
    intro line a o c h1 h5 ft
    obtain ⟨n, rfl⟩ : ∃ m, n = m + 1 := ⟨n - 1, by have := ft.m; omega⟩
    have pos := tkk_pos c line
    by_cases h4 : line ≤ 4
    · by_cases hne : lineC c = line
      · cases c with
        | word x => exact absurd hne (by show 6 ≠ line; omega)
        | non => exact absurd hne (by show 6 ≠ line; omega)
        | not p => exact absurd hne (by show 5 ≠ line; omega)
        | bin f p q =>
          have hf : lineF f = line := hne
          unfold Reads
          cases f with
          | same =>
            have e0 : line = 1 := hf.symm
            subst e0
            obtain ⟨m, has, sz, op, st⟩ := ft
            have e1 : tkk (.bin .same p q) 1 = tkk p 2 ++ sg (markF .same) :: tkk q 2 := tkk_own _ _ (Nat.le_refl _)
            have e2 : mo (.bin .same p q) 1 = max (mo p 2) (mo q 2) := mo_own _ _ (Nat.le_refl _)
            have e3 : (tkk p 2 ++ sg (markF .same) :: tkk q 2).length = (tkk p 2).length + 1 + (tkk q 2).length := by rw [List.length_append, List.length_cons]; omega
            rw [e1] at has sz st ⊢
            rw [e3] at sz st ⊢
            rw [e2] at op
            have hm := has.right
            have hq := hm.tail
            have p1 := tkk_pos p 2
            have ra := ih n (by omega) 2 a o p (by omega) (by omega) ⟨by omega, has.left, by omega, by omega, stops_mark hm (by decide)⟩
            have rb := ih n (by omega) 2 (a + (tkk p 2).length + 1) o q (by omega) (by omega) ⟨by omega, hq, by omega, by omega, by
              have e4 : a + (tkk p 2).length + 1 + (tkk q 2).length = a + ((tkk p 2).length + 1 + (tkk q 2).length) := by omega
              rw [e4]; exact st.up (by omega)⟩
            unfold Reads at ra rb
            rw [rd_1, ra, bind_some, if_pos (by rw [sees_at hm]; decide), step_at hm (by omega), rb, bind_some]
            congr 4
            omega
          | given =>
            have e0 : line = 2 := hf.symm
            subst e0
            obtain ⟨m, has, sz, op, st⟩ := ft
            have e1 : tkk (.bin .given p q) 2 = tkk p 3 ++ sg (markF .given) :: tkk q 2 := tkk_own _ _ (Nat.le_refl _)
            have e2 : mo (.bin .given p q) 2 = max (mo p 3) (mo q 2) := mo_own _ _ (Nat.le_refl _)
            have e3 : (tkk p 3 ++ sg (markF .given) :: tkk q 2).length = (tkk p 3).length + 1 + (tkk q 2).length := by rw [List.length_append, List.length_cons]; omega
            rw [e1] at has sz st ⊢
            rw [e3] at sz st ⊢
            rw [e2] at op
            have hm := has.right
            have hq := hm.tail
            have p1 := tkk_pos p 3
            have ra := ih n (by omega) 3 a o p (by omega) (by omega) ⟨by omega, has.left, by omega, by omega, stops_mark hm (by decide)⟩
            have rb := ih n (by omega) 2 (a + (tkk p 3).length + 1) o q (by omega) (by omega) ⟨by omega, hq, by omega, by omega, by
              have e4 : a + (tkk p 3).length + 1 + (tkk q 2).length = a + ((tkk p 3).length + 1 + (tkk q 2).length) := by omega
              rw [e4]; exact st⟩
            unfold Reads at ra rb
            rw [rd_2, ra, bind_some, if_pos (by rw [sees_at hm]; decide), step_at hm (by omega), rb, bind_some]
            congr 4
            omega
          | or =>
            have e0 : line = 3 := hf.symm
            subst e0
            obtain ⟨j, j1, j2⟩ := spine (f := .or) (line := 3) rfl rfl rfl (fun a o => rd_3 n a o) (fun a o c h => ih n (by omega) 4 a o c (by omega) (by omega) h) (.bin .or p q) a o ft.m ft.has ft.sz ft.op (ft.st.up (by omega))
            have := ft.sz
            obtain ⟨j, rfl⟩ : ∃ j', j = j' + 1 := ⟨j - 1, by omega⟩
            rw [j2]
            show (if _ then _ else _) = _
            rw [if_neg (by rw [show markF .or = tx "|" from rfl, ft.st.s3 (Nat.le_refl _)]; decide)]
          | and =>
            have e0 : line = 4 := hf.symm
            subst e0
            obtain ⟨j, j1, j2⟩ := spine (f := .and) (line := 4) rfl rfl rfl (fun a o => rd_4 n a o) (fun a o c h => ih n (by omega) 5 a o c (by omega) (by omega) h) (.bin .and p q) a o ft.m ft.has ft.sz ft.op (ft.st.up (by omega))
            have := ft.sz
            obtain ⟨j, rfl⟩ : ∃ j', j = j' + 1 := ⟨j - 1, by omega⟩
            rw [j2]
            show (if _ then _ else _) = _
            rw [if_neg (by rw [show markF .and = tx "&" from rfl, ft.st.s4 (Nat.le_refl _)]; decide)]
      · have h := ih n (by omega) (line + 1) a o c (by omega) (by omega) (ft.same hne h5)
        unfold Reads at h ⊢
        rw [tkk_eq hne] at h
        exact lift h1 h4 h ft.st
    · obtain rfl : line = 5 := by omega
      obtain ⟨m, has, sz, op, st⟩ := ft
      unfold Reads
      cases c with
      | word x =>
        have e1 : tkk (.word x) 5 = [(tx "name", x)] := rfl
        rw [e1] at has sz ⊢
        have hl : ([(tx "name", x)] : List KV).length = 1 := rfl
        rw [hl] at sz ⊢
        rw [rd_5]
        unfold line5
        rw [if_neg (by rw [sees_at has]; show ¬ (decide (tx "name" ∈ [tx "keyword", tx "sign"]) && _) = true; rw [show decide (tx "name" ∈ [tx "keyword", tx "sign"]) = false by decide]; simp), if_pos (by rw [kind_at has]; show decide (tx "name" = tx "name") = true; decide), step_at has (by omega)]
      | non =>
        have e1 : tkk .non 5 = [(tx "keyword", tx "none")] := rfl
        rw [e1] at has sz ⊢
        have hl : ([(tx "keyword", tx "none")] : List KV).length = 1 := rfl
        rw [hl] at sz ⊢
        rw [rd_5]
        unfold line5
        rw [if_neg (by rw [sees_at has]; decide), if_neg (by rw [kind_at has]; decide), if_pos (by rw [sees_at has]; decide), step_at has (by omega)]
      | not p =>
        have e1 : tkk (.not p) 5 = sg (tx "~") :: tkk p 5 := tkk_own _ _ (Nat.le_refl _)
        have e2 : mo (.not p) 5 = mo p 5 := mo_own _ _ (Nat.le_refl _)
        rw [e1] at has sz st ⊢
        rw [e2] at op
        rw [List.length_cons] at sz st ⊢
        have p1 := tkk_pos p 5
        have ra := ih n (by omega) 5 (a + 1) o p (by omega) (by omega) ⟨by omega, has.tail, by omega, op, by
          have e4 : a + 1 + (tkk p 5).length = a + ((tkk p 5).length + 1) := by omega
          rw [e4]; exact st⟩
        unfold Reads at ra
        rw [rd_5]
        unfold line5
        rw [if_pos (by rw [sees_at has]; decide), step_at has (by omega), ra, bind_some]
        congr 4
        omega
      | bin f p q =>
        have hlt : lineC (.bin f p q) < 5 := by show lineF f < 5; cases f <;> decide
        have e1 : tkk (.bin f p q) 5 = sg (tx "(") :: (tkk (.bin f p q) 1 ++ [sg (tx ")")]) := by
          rw [tkk_own (.bin f p q) 1 (by show 1 ≤ lineF f; cases f <;> decide)]
          unfold tkk parK
          rw [if_pos (decide_eq_true hlt)]
        have e2 : mo (.bin f p q) 5 = 1 + mo (.bin f p q) 1 := by
          rw [mo_own (.bin f p q) 1 (by show 1 ≤ lineF f; cases f <;> decide)]
          unfold mo
          rw [if_pos hlt]
        rw [e1] at has sz st ⊢
        rw [e2] at op
        have e3 : (sg (tx "(") :: (tkk (.bin f p q) 1 ++ [sg (tx ")")])).length = (tkk (.bin f p q) 1).length + 2 := by rw [List.length_cons, List.length_append]; rfl
        rw [e3] at sz st ⊢
        have p1 := tkk_pos (.bin f p q) 1
        obtain ⟨n, rfl⟩ : ∃ m, n = m + 1 := ⟨n - 1, by omega⟩
        have hc := has.tail.right
        have ra := ih n (by omega) 1 (a + 1) (o + 1) (.bin f p q) (by omega) (by omega) ⟨by omega, has.tail.left, by omega, by omega, stops_close hc⟩
        unfold Reads at ra
        rw [rd_5]
        unfold line5
        rw [if_neg (by rw [sees_at has]; decide), if_neg (by rw [kind_at has]; decide), if_neg (by rw [sees_at has]; decide), if_pos (by rw [sees_at has]; decide), if_neg (by omega), step_at has (by omega)]
        show bindR (rd l len n 1 (a + 1) (o + 1)) _ = _
        rw [ra, bind_some, if_pos (by rw [sees_at hc]; decide), step_at hc (by omega)]
        congr 4
        omega
end
end K63
namespace K63
open PySem PySem.Spec L2 DL
def isP (x : KV) : Bool := decide (x.2 = tx "(")
def pc (s : List KV) : Nat := (s.filter isP).length
theorem pc_app (s t : List KV) : pc (s ++ t) = pc s + pc t := by unfold pc; rw [List.filter_append, List.length_append]
theorem pc_nil : pc [] = 0 := rfl
theorem pc_yes {x : KV} {s : List KV} (h : x.2 = tx "(") : pc (x :: s) = pc s + 1 := by unfold pc; rw [List.filter_cons, if_pos (show isP x = true from decide_eq_true h)]; rfl
theorem pc_no {x : KV} {s : List KV} (h : x.2 ≠ tx "(") : pc (x :: s) = pc s := by
  unfold pc
  rw [List.filter_cons, if_neg (show ¬ isP x = true by unfold isP; rw [decide_eq_false h]; decide)]
theorem pc_le {x : KV} {s : List KV} : pc s ≤ pc (x :: s) := by
  by_cases h : x.2 = tx "("
  · rw [pc_yes h]; omega
  · rw [pc_no h]; exact Nat.le_refl _
theorem pc_parK (b : Bool) (s : List KV) : pc (parK b s) = (if b = true then 1 else 0) + pc s := by
  unfold parK
  cases b with
  | true =>
    rw [if_pos rfl, if_pos rfl, pc_yes rfl, pc_app]
    show pc s + 0 + 1 = _
    omega
  | false => rw [if_neg (by decide), if_neg (by decide), Nat.zero_add]
theorem pc_tkk (c : Cl) (n : Nat) : pc (tkk c n) = (if lineC c < n then 1 else 0) + pc (core c) := by
  unfold tkk
  rw [pc_parK]
  by_cases h : lineC c < n
  · rw [if_pos h, if_pos (decide_eq_true h)]
  · rw [if_neg h, if_neg (by rw [decide_eq_false h]; decide)]
theorem pc_up {c : Cl} {i j : Nat} (h : i ≤ j) : pc (tkk c i) ≤ pc (tkk c j) := by
  rw [pc_tkk, pc_tkk]
  split
  · rw [if_pos (by omega)]; exact Nat.le_refl _
  · omega
theorem mark_no (f : Fm) : (sg (markF f)).2 ≠ tx "(" := by cases f <;> (show tx _ ≠ tx "("; decide)
theorem pc_bin (f : Fm) (a b : Cl) {n : Nat} (h : n ≤ lineF f) : pc (tkk (.bin f a b) n) = pc (tkk a (leftF f)) + pc (tkk b (rightF f)) := by
  rw [tkk_own _ _ h]
  show pc (tkk a (leftF f) ++ sg (markF f) :: tkk b (rightF f)) = _
  rw [pc_app, pc_no (mark_no f)]
section
variable {l : List Tok} {len : Nat}
def pcl (l : List Tok) (a : Nat) : Nat := pc ((l.map kv).take a)
theorem pcl_succ {a : Nat} {k : Tok} (h : l[a]? = some k) : pcl l (a + 1) = pcl l a + pc [kv k] := by
  unfold pcl
  rw [List.take_add_one, pc_app, List.getElem?_map, h]
  rfl
theorem pcl_le (a : Nat) : pcl l a ≤ pcl l (a + 1) := by
  unfold pcl
  rw [List.take_add_one, pc_app]
  omega
theorem loop_min {sub : Nat → Nat → Rd} {mark : Tx} {f : Fm} {line : Nat} (hf : lineF f = line) (hl : leftF f = line) (hr : rightF f = line + 1)
    (hs : ∀ a o c a' o', sub a o = some (.ok (c, a', o')) → pcl l a + pc (tkk c (line + 1)) ≤ pcl l a') :
    ∀ (n : Nat) (c : Cl) (a o a0 : Nat), pcl l a0 + pc (tkk c line) ≤ pcl l a → ∀ c' a' o', loopR l len sub mark f n c a o = some (.ok (c', a', o')) → pcl l a0 + pc (tkk c' line) ≤ pcl l a'
  | 0, c, a, o, a0, h, c', a', o', e => by cases e
  | n + 1, c, a, o, a0, h, c', a', o', e => by
    unfold loopR at e
    split at e
    · obtain ⟨k, e1, e2, e3, e4⟩ := step_ok e
      obtain ⟨b, a2, o2, e5, e6⟩ := bind_ok e4
      have h1 := hs _ _ _ _ _ e5
      have h2 := pcl_le (l := l) a
      refine loop_min hf hl hr hs n (.bin f c b) a2 o2 a0 ?_ c' a' o' e6
      rw [pc_bin f c b (by omega), hl, hr]
      omega
    · cases e
      exact h
theorem minimal : ∀ (n line a o : Nat), 1 ≤ line → line ≤ 5 → ∀ c a' o', rd l len n line a o = some (.ok (c, a', o')) → pcl l a + pc (tkk c line) ≤ pcl l a' := by
  intro n
  induction n using Nat.strongRecOn with
  | ind n ih =>
    intro line a o hl1 hl5 c' a' o' h
    match n, line, hl1, hl5, h with
    | 0, _, _, _, h => unfold rd at h; cases h
    | n + 1, 1, _, _, h =>
      rw [rd_1] at h
      obtain ⟨c, a1, o1, e1, e2⟩ := bind_ok h
      have g1 := ih n (by omega) _ _ _ (by omega) (by omega) _ _ _ e1
      split at e2
      · obtain ⟨k, f1, f2, f3, f4⟩ := step_ok e2
        obtain ⟨b, a2, o2, f5, f6⟩ := bind_ok f4
        have g2 := ih n (by omega) _ _ _ (by omega) (by omega) _ _ _ f5
        have g3 := pcl_le (l := l) a1
        cases f6
        rw [pc_bin .same c b (by decide)]
        show pcl l a + (pc (tkk c 2) + pc (tkk b 2)) ≤ _
        omega
      · cases e2
        have := pc_up (c := c') (show 1 ≤ 2 by omega)
        omega
    | n + 1, 2, _, _, h =>
      rw [rd_2] at h
      obtain ⟨c, a1, o1, e1, e2⟩ := bind_ok h
      have g1 := ih n (by omega) _ _ _ (by omega) (by omega) _ _ _ e1
      split at e2
      · obtain ⟨k, f1, f2, f3, f4⟩ := step_ok e2
        obtain ⟨b, a2, o2, f5, f6⟩ := bind_ok f4
        have g2 := ih n (by omega) _ _ _ (by omega) (by omega) _ _ _ f5
        have g3 := pcl_le (l := l) a1
        cases f6
        rw [pc_bin .given c b (by decide)]
        show pcl l a + (pc (tkk c 3) + pc (tkk b 2)) ≤ _
        omega
      · cases e2
        have := pc_up (c := c') (show 2 ≤ 3 by omega)
        omega
    | n + 1, 3, _, _, h =>
      rw [rd_3] at h
      obtain ⟨c, a1, o1, e1, e2⟩ := bind_ok h
      have g1 := ih n (by omega) _ _ _ (by omega) (by omega) _ _ _ e1
      have := pc_up (c := c) (show 3 ≤ 4 by omega)
      exact loop_min (line := 3) rfl rfl rfl (fun a o c a' o' h => ih n (by omega) 4 a o (by omega) (by omega) c a' o' h) _ _ _ _ a (by omega) _ _ _ e2
    | n + 1, 4, _, _, h =>
      rw [rd_4] at h
      obtain ⟨c, a1, o1, e1, e2⟩ := bind_ok h
      have g1 := ih n (by omega) _ _ _ (by omega) (by omega) _ _ _ e1
      have := pc_up (c := c) (show 4 ≤ 5 by omega)
      exact loop_min (line := 4) rfl rfl rfl (fun a o c a' o' h => ih n (by omega) 5 a o (by omega) (by omega) c a' o' h) _ _ _ _ a (by omega) _ _ _ e2
    | n + 1, 5, _, _, h =>
      rw [rd_5] at h
      unfold line5 at h
      have g0 := pcl_le (l := l) a
      split at h
      · obtain ⟨k, f1, f2, f3, f4⟩ := step_ok h
        obtain ⟨b, a2, o2, f5, f6⟩ := bind_ok f4
        have g2 := ih n (by omega) _ _ _ (by omega) (by omega) _ _ _ f5
        cases f6
        have e1 : tkk (.not b) 5 = sg (tx "~") :: tkk b 5 := tkk_own _ _ (Nat.le_refl _)
        rw [e1, pc_no (show tx "~" ≠ tx "(" by decide)]
        omega
      · split at h
        · obtain ⟨k, f1, f2, f3, f4⟩ := step_ok h
          cases f4
          have e1 : pc (tkk (.word k.2.1) 5) ≤ pc [kv k] := by
            show pc [(tx "name", k.2.1)] ≤ pc [kv k]
            by_cases z : k.2.1 = tx "("
            · rw [pc_yes (x := (tx "name", k.2.1)) z, pc_yes (x := kv k) z]
              exact Nat.le_refl _
            · rw [pc_no (x := (tx "name", k.2.1)) z]
              exact Nat.zero_le _
          have e2 := pcl_succ f1
          omega
        · split at h
          · obtain ⟨k, f1, f2, f3, f4⟩ := step_ok h
            cases f4
            show _ + 0 ≤ _
            omega
          · split at h
            · rename_i hs
              split at h
              · cases h
              · obtain ⟨k, f1, f2, f3, f4⟩ := step_ok h
                have hk : k.2.1 = tx "(" := by
                  unfold seesW at hs
                  rw [f1] at hs
                  exact of_decide_eq_true (Bool.and_eq_true_iff.mp hs).2
                have e2 := pcl_succ f1
                rw [pc_yes (x := kv k) hk] at e2
                cases n with
                | zero => cases f4
                | succ m =>
                  obtain ⟨b, a2, o2, f5, f6⟩ := bind_ok f4
                  have g2 := ih m (by omega) _ _ _ (by omega) (by omega) _ _ _ f5
                  split at f6
                  · obtain ⟨q, q1, q2, q3, q4⟩ := step_ok f6
                    cases q4
                    have g3 := pcl_le (l := l) a2
                    rw [pc_tkk] at g2 ⊢
                    rw [pc_nil] at e2
                    split <;> omega
                  · cases f6
            · cases h
end
def keep {α : Type} (ws : List Nat) : Nat → List α → List α
  | _, [] => []
  | k, x :: r => if k ∈ ws then keep ws (k + 1) r else x :: keep ws (k + 1) r
theorem keep_nil {α : Type} : ∀ (k : Nat) (s : List α), keep [] k s = s
  | _, [] => rfl
  | k, x :: r => by
    unfold keep
    rw [if_neg (by simp), keep_nil]
theorem keep_map {α β : Type} (f : α → β) (ws : List Nat) : ∀ (k : Nat) (s : List α), keep ws k (s.map f) = (keep ws k s).map f
  | _, [] => rfl
  | k, x :: r => by
    rw [List.map_cons]
    unfold keep
    rw [keep_map f ws]
    split <;> rfl
theorem keep_mem {α : Type} {ws : List Nat} {y : α} : ∀ {k : Nat} {s : List α}, y ∈ keep ws k s → y ∈ s
  | _, [], h => by cases h
  | k, x :: r, h => by
    unfold keep at h
    split at h
    · exact List.mem_cons_of_mem _ (keep_mem h)
    · rcases List.mem_cons.mp h with z | z
      · rw [z]; exact List.mem_cons_self
      · exact List.mem_cons_of_mem _ (keep_mem z)
theorem keep_len {α : Type} {ws : List Nat} : ∀ {k : Nat} {s : List α}, (keep ws k s).length ≤ s.length
  | _, [] => Nat.le_refl _
  | k, x :: r => by
    unfold keep
    have := keep_len (ws := ws) (k := k + 1) (s := r)
    split
    · rw [List.length_cons]; omega
    · rw [List.length_cons, List.length_cons]; omega
theorem pc_keep {ws : List Nat} : ∀ {k : Nat} {s : List KV}, pc (keep ws k s) ≤ pc s
  | _, [] => Nat.le_refl _
  | k, x :: r => by
    unfold keep
    have h := pc_keep (ws := ws) (k := k + 1) (s := r)
    split
    · have := pc_le (x := x) (s := r); omega
    · by_cases z : x.2 = tx "("
      · rw [pc_yes z, pc_yes z]; omega
      · rw [pc_no z, pc_no z]; exact h
theorem pc_drop {ws : List Nat} {i : Nat} (hi : i ∈ ws) {y : KV} (hy : y.2 = tx "(") : ∀ {k : Nat} {s : List KV}, k ≤ i → s[i - k]? = some y → pc (keep ws k s) + 1 ≤ pc s
  | k, [], h, e => by simp at e
  | k, x :: r, h, e => by
    unfold keep
    by_cases z : k = i
    · subst z
      rw [Nat.sub_self] at e
      have e' : x = y := by simpa using e
      subst e'
      rw [if_pos hi, pc_yes hy]
      have := pc_keep (ws := ws) (k := k + 1) (s := r)
      omega
    · obtain ⟨j, hj⟩ : ∃ j, i - k = j + 1 := ⟨i - k - 1, by omega⟩
      rw [hj, List.getElem?_cons_succ] at e
      have h2 := pc_drop hi hy (k := k + 1) (s := r) (by omega) (by rw [show i - (k + 1) = j by omega]; exact e)
      split
      · have := pc_le (x := x) (s := r); omega
      · by_cases q : x.2 = tx "("
        · rw [pc_yes q, pc_yes q]; omega
        · rw [pc_no q, pc_no q]; exact h2
end K63
namespace K63
open PySem PySem.Spec L2 DL
/-- a text begins with that token -/
def Tk (u : Tx) (x : KV) : Prop := tokAt u 0 = some (x.1, x.2, x.2.length)
theorem tokAt_drop (t : Tx) (s : Nat) : tokAt t s = (tokAt (t.drop s) 0).map fun x => (x.1, x.2.1, s + x.2.2) := by
  have h0 : (t.drop s)[0]? = t[s]? := by rw [List.getElem?_drop]; rfl
  have hw : wordAt (t.drop s) 0 = wordAt t s := rfl
  unfold tokAt
  rw [h0, hw, List.drop_zero]
  cases h : t[s]? with
  | none => rfl
  | some c =>
    dsimp only
    split
    · rw [Nat.zero_add]; rfl
    · split
      · rfl
      · split
        · rfl
        · split
          · rfl
          · rfl
inductive Lx : Tx → List KV → Prop
  | nil : Lx [] []
  | blank {c : Nat} {u : Tx} {s : List KV} : [c] ∈ blankT → Lx u s → Lx (c :: u) s
  | tok {x : KV} {r : Tx} {s : List KV} : Tk (x.2 ++ r) x → (∀ c, x.2.head? = some c → ¬ [c] ∈ blankT) → x.2 ≠ [] → Lx r s → Lx (x.2 ++ r) (x :: s)
theorem Lx.tkz {u : Tx} {s : List KV} (h : Lx u s) : ∀ (t : Tx) (i n : Nat), t.drop i = u → i ≤ t.length → t.length < n + i → ∃ L, tkz t n i = .ok L ∧ L.map kv = s := by
  induction h with
  | nil =>
    intro t i n e h1 h2
    obtain ⟨n, rfl⟩ : ∃ m, n = m + 1 := ⟨n - 1, by omega⟩
    have h3 : t.length ≤ i := List.drop_eq_nil_iff.mp e
    unfold K63.tkz
    rw [List.getElem?_eq_none h3]
    exact ⟨[], rfl, rfl⟩
  | @blank c u s hb _ ih =>
    intro t i n e h1 h2
    obtain ⟨n, rfl⟩ : ∃ m, n = m + 1 := ⟨n - 1, by omega⟩
    have h3 : t[i]? = some c := by
      have := congrArg (fun z : Tx => z[0]?) e
      simpa [List.getElem?_drop] using this
    have h4 : i < t.length := (List.getElem?_eq_some_iff.mp h3).1
    unfold K63.tkz
    rw [h3]
    dsimp only
    rw [if_pos hb]
    refine ih t (i + 1) n ?_ (by omega) (by omega)
    rw [← List.drop_drop, e]
    rfl
  | @tok x r s hk hb hn _ ih =>
    intro t i n e h1 h2
    obtain ⟨n, rfl⟩ : ∃ m, n = m + 1 := ⟨n - 1, by omega⟩
    obtain ⟨c, v, hv⟩ : ∃ c v, x.2 = c :: v := by
      cases hx : x.2 with
      | nil => exact absurd hx hn
      | cons c v => exact ⟨c, v, rfl⟩
    have h3 : t[i]? = some c := by
      have := congrArg (fun z : Tx => z[0]?) e
      rw [hv] at this
      simpa [List.getElem?_drop] using this
    have h4 : i < t.length := (List.getElem?_eq_some_iff.mp h3).1
    have hlen : x.2.length + r.length = t.length - i := by
      rw [← List.length_drop, e, List.length_append]
    have hx1 : 1 ≤ x.2.length := by rw [hv]; simp
    have hd : t.drop (i + x.2.length) = r := by
      rw [← List.drop_drop, e, List.drop_left]
    obtain ⟨L, k1, k2⟩ := ih t (i + x.2.length) n hd (by omega) (by omega)
    have h5 : tokAt t i = some (x.1, x.2, i + x.2.length) := by
      rw [tokAt_drop, e, hk]
      rfl
    unfold K63.tkz
    rw [h3]
    dsimp only
    rw [if_neg (hb c (by rw [hv]; rfl)), h5]
    dsimp only
    rw [k1]
    exact ⟨_, rfl, by rw [List.map_cons, k2]; rfl⟩
theorem Lx.toks {t : Tx} {s : List KV} (h : Lx t s) : ∃ L, toks t = .ok L ∧ L.map kv = s := h.tkz t 0 (t.length + 1) rfl (Nat.zero_le _) (by omega)
/-- no letter of a word goes on -/
def Sep (r : Tx) : Prop := ∀ c, r.head? = some c → ¬ c ∈ wordT
theorem tw_sep {x r : Tx} (hx : ∀ c ∈ x, c ∈ wordT) (hr : Sep r) : wordAt (x ++ r) 0 = x := by
  unfold wordAt
  rw [List.drop_zero]
  induction x with
  | nil =>
    cases r with
    | nil => rfl
    | cons c r => exact List.takeWhile_cons_of_neg (by rw [decide_eq_false (hr c rfl)]; decide)
  | cons c x ih =>
    rw [List.cons_append, List.takeWhile_cons_of_pos (by exact decide_eq_true (hx c List.mem_cons_self)), ih fun d hd => hx d (List.mem_cons_of_mem _ hd)]
structure GoodT (x : KV) : Prop where
  tk : ∀ r, Sep r → Tk (x.2 ++ r) x
  nb : ∀ c, x.2.head? = some c → ¬ [c] ∈ blankT
  ne : x.2 ≠ []
theorem low_nb {c : Nat} (h : c ∈ lowT) : ¬ [c] ∈ blankT := by
  have : ∀ c ∈ lowT, ¬ [c] ∈ blankT := by decide
  exact this c h
theorem word_tk {x r : Tx} (hx : ∀ c ∈ x, c ∈ wordT) {c : Nat} {v : Tx} (hv : x = c :: v) (hc : c ∈ lowT) (hr : Sep r) : Tk (x ++ r) (kindOf x, x) := by
  unfold Tk tokAt
  rw [show (x ++ r)[0]? = some c by rw [hv]; rfl]
  dsimp only
  rw [if_pos hc, tw_sep hx hr, Nat.zero_add]
theorem good_word {x : Tx} (hx : ∀ c ∈ x, c ∈ wordT) {c : Nat} {v : Tx} (hv : x = c :: v) (hc : c ∈ lowT) : GoodT (kindOf x, x) where
  tk := fun r hr => word_tk hx hv hc hr
  nb := fun d hd => by
    have : some c = some d := by rw [← hd, hv]; rfl
    cases this
    exact low_nb hc
  ne := by rw [hv]; exact fun z => nomatch z
theorem good_name {x : Tx} (h : Nm x) : GoodT (tx "name", x) := by
  obtain ⟨⟨c, v, hv, hc⟩, hw, hk⟩ := h
  have := good_word hw hv hc
  unfold kindOf at this
  rwa [if_neg hk] at this
theorem good_key {x : Tx} (h : x ∈ kwT) : GoodT (tx "keyword", x) := by
  have hw : ∀ c ∈ x, c ∈ wordT := by
    have : ∀ x ∈ kwT, ∀ c ∈ x, c ∈ wordT := by decide
    exact this x h
  have hx : ∃ c v, x = c :: v ∧ c ∈ lowT := by
    simp only [List.mem_cons, List.not_mem_nil, or_false] at h
    rcases h with rfl | rfl | rfl | rfl
    · exact ⟨110, [111, 116, 101], rfl, by decide⟩
    · exact ⟨97, [115, 107], rfl, by decide⟩
    · exact ⟨110, [97, 109, 101], rfl, by decide⟩
    · exact ⟨110, [111, 110, 101], rfl, by decide⟩
  obtain ⟨c, v, hv, hc⟩ := hx
  have := good_word hw hv hc
  unfold kindOf at this
  rwa [if_pos h] at this
/-- a sign of one letter -/
theorem sign1 {c : Nat} (h1 : ¬ c ∈ lowT) (h2 : c ≠ 60) (h3 : c ≠ 45) (h4 : [c] ∈ shortT) (r : Tx) : Tk ([c] ++ r) (tx "sign", [c]) := by
  unfold Tk tokAt
  rw [show ([c] ++ r)[0]? = some c from rfl]
  dsimp only
  rw [if_neg h1, if_neg, if_neg, if_pos h4]
  · rfl
  · intro z
    have := congrArg List.head? z
    exact h3 (by simpa [tx] using this)
  · intro z
    have := congrArg List.head? z
    exact h2 (by simpa [tx] using this)
theorem tk_open (r : Tx) : Tk (tx "(" ++ r) (sg (tx "(")) := sign1 (c := 40) (by decide) (by decide) (by decide) (by decide) r
theorem tk_close (r : Tx) : Tk (tx ")" ++ r) (sg (tx ")")) := sign1 (c := 41) (by decide) (by decide) (by decide) (by decide) r
theorem tk_not (r : Tx) : Tk (tx "~" ++ r) (sg (tx "~")) := sign1 (c := 126) (by decide) (by decide) (by decide) (by decide) r
theorem tk_eq (r : Tx) : Tk (tx "=" ++ r) (sg (tx "=")) := sign1 (c := 61) (by decide) (by decide) (by decide) (by decide) r
theorem tk_mark (f : Fm) (r : Tx) : Tk (markF f ++ r) (sg (markF f)) := by
  cases f with
  | or => exact sign1 (c := 124) (by decide) (by decide) (by decide) (by decide) r
  | and => exact sign1 (c := 38) (by decide) (by decide) (by decide) (by decide) r
  | same =>
    unfold Tk tokAt
    rw [show (markF .same ++ r)[0]? = some 60 from rfl]
    dsimp only
    rw [if_neg (by decide), if_pos (show (List.drop 0 (markF .same ++ r)).take 3 = tx "<->" from rfl)]
    rfl
  | given =>
    unfold Tk tokAt
    rw [show (markF .given ++ r)[0]? = some 45 from rfl]
    dsimp only
    rw [if_neg (by decide), if_neg, if_pos (show (List.drop 0 (markF .given ++ r)).take 2 = tx "->" from rfl)]
    · rfl
    · intro z
      have := congrArg List.head? z
      exact absurd (show some 45 = some 60 from this) (by decide)
theorem nb_sign {x : Tx} (h : x ∈ [tx "(", tx ")", tx "~", tx "=", tx "<->", tx "->", tx "|", tx "&"]) : (∀ c, x.head? = some c → ¬ [c] ∈ blankT) ∧ x ≠ [] := by
  have : ∀ x ∈ [tx "(", tx ")", tx "~", tx "=", tx "<->", tx "->", tx "|", tx "&"], (x.head?.all fun c => decide (¬ [c] ∈ blankT)) = true ∧ x ≠ [] := by decide
  obtain ⟨h1, h2⟩ := this x h
  refine ⟨fun c hc => ?_, h2⟩
  rw [hc] at h1
  exact of_decide_eq_true h1
theorem mark_in (f : Fm) : markF f ∈ [tx "(", tx ")", tx "~", tx "=", tx "<->", tx "->", tx "|", tx "&"] := by cases f <;> decide
theorem good_sg {x : Tx} (h : x ∈ [tx "(", tx ")", tx "~", tx "=", tx "<->", tx "->", tx "|", tx "&"]) (hk : ∀ r, Tk (x ++ r) (sg x)) : GoodT (sg x) := ⟨fun r _ => hk r, (nb_sign h).1, (nb_sign h).2⟩
theorem good_open : GoodT (sg (tx "(")) := good_sg (by decide) tk_open
theorem good_close : GoodT (sg (tx ")")) := good_sg (by decide) tk_close
theorem good_not : GoodT (sg (tx "~")) := good_sg (by decide) tk_not
theorem good_eq : GoodT (sg (tx "=")) := good_sg (by decide) tk_eq
theorem good_mark (f : Fm) : GoodT (sg (markF f)) := good_sg (mark_in f) (tk_mark f)
theorem good_parK {b : Bool} {s : List KV} (h : ∀ x ∈ s, GoodT x) : ∀ x ∈ parK b s, GoodT x := by
  unfold parK
  split
  · intro x hx
    rcases List.mem_cons.mp hx with z | z
    · rw [z]; exact good_open
    · rcases List.mem_append.mp z with z | z
      · exact h x z
      · rw [List.mem_singleton.mp z]; exact good_close
  · exact h
theorem good_core : ∀ c : Cl, Nms c → ∀ x ∈ core c, GoodT x
  | .word y, h, x, hx => by rw [List.mem_singleton.mp hx]; exact good_name h
  | .non, h, x, hx => by rw [List.mem_singleton.mp hx]; exact good_key (by decide)
  | .not a, h, x, hx => by
    rcases List.mem_cons.mp hx with z | z
    · rw [z]; exact good_not
    · exact good_parK (good_core a h) x z
  | .bin f a b, h, x, hx => by
    rcases List.mem_append.mp hx with z | z
    · exact good_parK (good_core a h.1) x z
    · rcases List.mem_cons.mp z with z | z
      · rw [z]; exact good_mark f
      · exact good_parK (good_core b h.2) x z
theorem lx_one {x : KV} {r : Tx} {s : List KV} (g : GoodT x) (hr : Sep r) (h : Lx r s) : Lx (x.2 ++ r) (x :: s) := .tok (g.tk r hr) g.nb g.ne h
theorem lx_sign {x : KV} {r : Tx} {s : List KV} (g : GoodT x) (hk : ∀ r, Tk (x.2 ++ r) x) (h : Lx r s) : Lx (x.2 ++ r) (x :: s) := .tok (hk r) g.nb g.ne h
theorem lx_space {r : Tx} {s : List KV} (h : Lx r s) : Lx (tx " " ++ r) s := .blank (c := 32) (by decide) h
theorem sep_space (r : Tx) : Sep (tx " " ++ r) := fun c h => by
  have : some 32 = some c := h
  cases this
  decide
theorem sep_close (r : Tx) : Sep (tx ")" ++ r) := fun c h => by
  have : some 41 = some c := h
  cases this
  decide
theorem sep_nil : Sep [] := fun c h => by cases h
theorem markS_eq (f : Fm) : markS f = tx " " ++ (markF f ++ tx " ") := by cases f <;> rfl
theorem lx_par {b : Bool} {t : Tx} {k : List KV} (h : ∀ r s, Sep r → Lx r s → Lx (t ++ r) (k ++ s)) {r : Tx} {s : List KV} (hr : Sep r) (hs : Lx r s) : Lx (par b t ++ r) (parK b k ++ s) := by
  unfold par parK
  cases b with
  | false => exact h r s hr hs
  | true =>
    rw [if_pos rfl, if_pos rfl]
    have h1 : Lx (tx ")" ++ r) (sg (tx ")") :: s) := lx_sign good_close tk_close hs
    have h2 := h _ _ (sep_close r) h1
    have h3 := lx_sign good_open tk_open h2
    have e1 : tx "(" ++ t ++ tx ")" ++ r = tx "(" ++ (t ++ (tx ")" ++ r)) := by simp only [List.append_assoc]
    have e2 : sg (tx "(") :: (k ++ [sg (tx ")")]) ++ s = sg (tx "(") :: (k ++ (sg (tx ")") :: s)) := by simp only [List.cons_append, List.append_assoc, List.nil_append]
    rw [e1, e2]
    exact h3
theorem lx_wr : ∀ (c : Cl), Nms c → ∀ (r : Tx) (s : List KV), Sep r → Lx r s → Lx (wr c ++ r) (core c ++ s)
  | .word x, h, r, s, hr, hs => lx_one (x := (tx "name", x)) (good_name h) hr hs
  | .non, h, r, s, hr, hs => lx_one (x := (tx "keyword", tx "none")) (good_key (by decide)) hr hs
  | .not a, h, r, s, hr, hs => by
    have h1 := lx_par (b := decide (lineC a < 5)) (lx_wr a h) hr hs
    have h2 := lx_sign good_not tk_not h1
    show Lx (tx "~" ++ par _ (wr a) ++ r) _
    rw [List.append_assoc]
    exact h2
  | .bin f a b, h, r, s, hr, hs => by
    have h1 := lx_par (b := decide (lineC b < rightF f)) (lx_wr b h.2) hr hs
    have h2 := lx_sign (good_mark f) (tk_mark f) (lx_space h1)
    have h3 := lx_par (b := decide (lineC a < leftF f)) (lx_wr a h.1) (sep_space _) (lx_space h2)
    show Lx (par _ (wr a) ++ markS f ++ par _ (wr b) ++ r) ((parK _ (core a) ++ sg (markF f) :: parK _ (core b)) ++ s)
    rw [markS_eq]
    simp only [List.append_assoc, List.cons_append] at h3 ⊢
    exact h3
/-- a definition's tokens -/
def defK (s n : Tx) (c : Cl) : List KV := (tx "keyword", s) :: (tx "name", n) :: sg (tx "=") :: core c
theorem lx_def {s n : Tx} {c : Cl} (hs : s ∈ kwT) (hn : Nm n) (hc : Nms c) : Lx (s ++ tx " " ++ n ++ tx " = " ++ wr c) (defK s n c) := by
  have h0 := lx_wr c hc [] [] sep_nil .nil
  rw [List.append_nil, List.append_nil] at h0
  have h1 := lx_sign good_eq tk_eq (lx_space h0)
  have h2 := lx_one (good_name hn) (sep_space _) (lx_space h1)
  have h3 := lx_one (good_key hs) (sep_space _) (lx_space h2)
  have e : s ++ tx " " ++ n ++ tx " = " ++ wr c = s ++ (tx " " ++ (n ++ (tx " " ++ (tx "=" ++ (tx " " ++ wr c))))) := by
    rw [show tx " = " = tx " " ++ (tx "=" ++ tx " ") from rfl]
    simp only [List.append_assoc]
  rw [e]
  exact h3
theorem good_def {s n : Tx} {c : Cl} (hs : s ∈ kwT) (hn : Nm n) (hc : Nms c) : ∀ x ∈ defK s n c, GoodT x := fun x hx => by
  rcases List.mem_cons.mp hx with z | z
  · rw [z]; exact good_key hs
  · rcases List.mem_cons.mp z with z | z
    · rw [z]; exact good_name hn
    · rcases List.mem_cons.mp z with z | z
      · rw [z]; exact good_eq
      · exact good_core c hc x z
/-- blanks between -/
theorem lx_blanks {r : Tx} {s : List KV} (h : Lx r s) : ∀ b : Tx, (∀ c ∈ b, [c] ∈ blankT) → Lx (b ++ r) s
  | [], _ => h
  | c :: b, hb => .blank (hb c List.mem_cons_self) (lx_blanks h b fun d hd => hb d (List.mem_cons_of_mem _ hd))
theorem lx_join {b : Tx} (hb : ∀ c ∈ b, [c] ∈ blankT) (hn : Sep b) (h0 : b ≠ []) : ∀ s : List KV, (∀ x ∈ s, GoodT x) → Lx (joinT b (s.map (·.2))) s
  | [], _ => .nil
  | [x], h => by
    have := lx_one (h x List.mem_cons_self) sep_nil .nil
    rw [List.append_nil] at this
    exact this
  | x :: y :: s, h => by
    have h1 := lx_join hb hn h0 (y :: s) fun z hz => h z (List.mem_cons_of_mem _ hz)
    have h2 := lx_blanks h1 b hb
    have h3 : Sep (b ++ joinT b ((y :: s).map (·.2))) := fun c hc => by
      cases b with
      | nil => exact absurd rfl h0
      | cons d b => exact hn c hc
    have h4 := lx_one (h x List.mem_cons_self) h3 h2
    show Lx (x.2 ++ b ++ joinT b ((y :: s).map (·.2))) _
    rw [List.append_assoc]
    exact h4
end K63
namespace K63
open PySem PySem.Spec L2 DL
theorem core_1 (c : Cl) : tkk c 1 = core c := tkk_own c 1 (by cases c with
  | word x => exact (by show 1 ≤ 6; omega)
  | non => decide
  | not a => exact (by show 1 ≤ 5; omega)
  | bin f a b => exact (by show 1 ≤ lineF f; cases f <;> decide))
theorem mo_1 (c : Cl) : mo c 1 = moc c := mo_own c 1 (by cases c with
  | word x => exact (by show 1 ≤ 6; omega)
  | non => decide
  | not a => exact (by show 1 ≤ 5; omega)
  | bin f a b => exact (by show 1 ≤ lineF f; cases f <;> decide))
theorem has_all {L : List Tok} {k : List KV} (h : L.map kv = k) : Has L 0 k := ⟨[], by rw [List.drop_zero, h, List.append_nil]⟩
theorem read_def {t s n : Tx} {c : Cl} (hs : s ∈ sortT) (hl : Lx t (defK s n c)) (h1 : (core c).length ≤ 197) (h2 : moc c ≤ 12) (h3 : depth c ≤ 12) : readC t = .ok (s, n, c) := by
  obtain ⟨L, k1, k2⟩ := hl.toks
  have hL : L.length = 3 + (core c).length := by
    have := congrArg List.length k2
    rw [List.length_map] at this
    rw [this]
    show (core c).length + 1 + 1 + 1 = _
    omega
  have a0 := has_all k2
  have a1 := Has.tail a0
  have a2 := Has.tail a1
  have a3 := Has.tail a2
  unfold readC
  rw [k1]
  show readP L t.length = _
  unfold readP
  have hf : sortT.find? (seesW L 0) = some s := by
    have e : ∀ y, seesW L 0 y = decide (s = y) := fun y => by
      rw [sees_at a0]
      show (decide (tx "keyword" ∈ [tx "keyword", tx "sign"]) && decide (s = y)) = _
      rw [show decide (tx "keyword" ∈ [tx "keyword", tx "sign"]) = true by decide, Bool.true_and]
    have e2 : seesW L 0 = fun y => decide (s = y) := funext e
    rw [e2]
    simp only [List.mem_cons, List.not_mem_nil, or_false] at hs
    rcases hs with rfl | rfl | rfl <;> decide
  rw [hf]
  dsimp only
  rw [take_at a0 (by omega)]
  dsimp only
  have ek : takeKindR L t.length (0 + 1) 0 (tx "name") = .ok (.str n, 2, 0) := by
    unfold takeKindR
    rw [if_pos (by rw [kind_at a1]; show decide (tx "name" = tx "name") = true; decide), take_at a1 (by omega)]
  rw [ek]
  dsimp only
  have ee : expectR L t.length 2 0 (tx "=") = .ok (.non, 3, 0) := by
    unfold expectR
    rw [if_pos (by rw [sees_at a2]; decide), take_at a2 (by omega)]
    rfl
  rw [ee]
  dsimp only
  have hr := reads (l := L) (len := t.length) 264 1 3 0 c (Nat.le_refl _) (by omega) ⟨by omega, by rw [core_1]; exact a3, by rw [core_1]; omega, by rw [mo_1]; omega, by
    rw [core_1]
    exact stops_end _ (by omega)⟩
  unfold Reads at hr
  rw [hr]
  dsimp only
  rw [core_1, if_pos ⟨by omega, h3⟩]
theorem pcl_all {L : List Tok} {a : Nat} : pcl L a ≤ pc (L.map kv) := by
  have e : L.map kv = (L.map kv).take a ++ (L.map kv).drop a := (List.take_append_drop _ _).symm
  have := congrArg pc e
  rw [pc_app] at this
  unfold pcl
  omega
theorem no_fewer {t s n : Tx} {c : Cl} {k : List KV} (hl : Lx t k) (hk : pc k + 1 ≤ pc (core c)) : readC t ≠ .ok (s, n, c) := by
  intro h
  obtain ⟨L, k1, k2⟩ := hl.toks
  unfold readC at h
  rw [k1] at h
  have h : readP L t.length = .ok (s, n, c) := h
  unfold readP at h
  repeat' split at h
  all_goals first
    | (cases h; done)
    | skip
  rename_i hrd _ _ _ _
  injection h with h
  injection h with _ h
  injection h with _ h
  subst h
  have hm := minimal (l := L) (len := t.length) 264 1 _ _ (by omega) (by omega) _ _ _ hrd
  rw [core_1] at hm
  have hp : ∀ a, pcl L a ≤ pc k := fun a => by rw [← k2]; exact pcl_all
  exact absurd (Nat.le_trans hm (hp _)) (by omega)
theorem nm_ne {x : Tx} (h : Nm x) {y : Tx} (hy : y ∈ [tx "(", tx ")"]) : x ≠ y := by
  obtain ⟨⟨c, r, hc, hl⟩, _, _⟩ := h
  intro z
  have e : some c = y.head? := by rw [← z, hc]; rfl
  simp only [List.mem_cons, List.not_mem_nil, or_false] at hy
  rcases hy with rfl | rfl
  · have : c = 40 := Option.some.inj e
    subst this
    exact absurd hl (by decide)
  · have : c = 41 := Option.some.inj e
    subst this
    exact absurd hl (by decide)
theorem kw_ne {x : Tx} (h : x ∈ kwT) {y : Tx} (hy : y ∈ [tx "(", tx ")"]) : x ≠ y := by
  have : ∀ x ∈ kwT, ∀ y ∈ [tx "(", tx ")"], x ≠ y := by decide
  exact this x h y hy
theorem pc_def {s n : Tx} {c : Cl} (hs : s ∈ kwT) (hn : Nm n) : pc (defK s n c) = pc (core c) := by
  unfold defK
  rw [pc_no (kw_ne hs (by decide)), pc_no (nm_ne hn (by decide)), pc_no (show tx "=" ≠ tx "(" by decide)]
def Bal : List KV → Nat → Prop
  | [], _ => True
  | x :: r, d => if x.2 = tx "(" then Bal r (d + 1) else if x.2 = tx ")" then 1 ≤ d ∧ Bal r (d - 1) else Bal r d
theorem bal_other {x : KV} {r : List KV} {d : Nat} (h1 : x.2 ≠ tx "(") (h2 : x.2 ≠ tx ")") (h : Bal r d) : Bal (x :: r) d := by
  unfold Bal
  rw [if_neg h1, if_neg h2]
  exact h
theorem bal_par {b : Bool} {k : List KV} (h : ∀ r d, Bal r d → Bal (k ++ r) d) (r : List KV) (d : Nat) (hr : Bal r d) : Bal (parK b k ++ r) d := by
  unfold parK
  cases b with
  | false => exact h r d hr
  | true =>
    rw [if_pos rfl]
    have e : sg (tx "(") :: (k ++ [sg (tx ")")]) ++ r = sg (tx "(") :: (k ++ (sg (tx ")") :: r)) := by simp only [List.cons_append, List.append_assoc, List.nil_append]
    rw [e]
    unfold Bal
    rw [if_pos (show (sg (tx "(")).2 = tx "(" from rfl)]
    refine h _ _ ?_
    unfold Bal
    rw [if_neg (show (sg (tx ")")).2 ≠ tx "(" by show tx ")" ≠ tx "("; decide), if_pos (show (sg (tx ")")).2 = tx ")" from rfl)]
    exact ⟨by omega, hr⟩
theorem mark_no2 (f : Fm) : (sg (markF f)).2 ≠ tx ")" := by cases f <;> (show tx _ ≠ tx ")"; decide)
theorem bal_core : ∀ c : Cl, Nms c → ∀ r d, Bal r d → Bal (core c ++ r) d
  | .word x, h, r, d, hr => bal_other (nm_ne h (by decide)) (nm_ne h (by decide)) hr
  | .non, h, r, d, hr => bal_other (show tx "none" ≠ tx "(" by decide) (show tx "none" ≠ tx ")" by decide) hr
  | .not a, h, r, d, hr => bal_other (show tx "~" ≠ tx "(" by decide) (show tx "~" ≠ tx ")" by decide) (bal_par (bal_core a h) r d hr)
  | .bin f a b, h, r, d, hr => by
    show Bal ((parK _ (core a) ++ sg (markF f) :: parK _ (core b)) ++ r) d
    rw [List.append_assoc, List.cons_append]
    exact bal_par (bal_core a h.1) _ d (bal_other (mark_no f) (mark_no2 f) (bal_par (bal_core b h.2) r d hr))
theorem bal_def {s n : Tx} {c : Cl} (hs : s ∈ kwT) (hn : Nm n) (hc : Nms c) : Bal (defK s n c) 0 := by
  have := bal_core c hc [] 0 True.intro
  rw [List.append_nil] at this
  exact bal_other (kw_ne hs (by decide)) (kw_ne hs (by decide)) (bal_other (nm_ne hn (by decide)) (nm_ne hn (by decide)) (bal_other (show tx "=" ≠ tx "(" by decide) (show tx "=" ≠ tx ")" by decide) this))
def dl (t : Tx) : Int := if t = tx "(" then 1 else if t = tx ")" then -1 else 0
def runO : List Tx → Int → Int → Int
  | [], _, m => m
  | t :: r, o, m => runO r (o + dl t) (max m (o + dl t))
def valsK (k : List KV) : List Tx := k.map (·.2)
theorem run_other {t : Tx} {r : List Tx} {o m : Int} (h1 : t ≠ tx "(") (h2 : t ≠ tx ")") (hm : o ≤ m) : runO (t :: r) o m = runO r o m := by
  show runO r (o + dl t) (max m (o + dl t)) = _
  have e : dl t = 0 := by unfold dl; rw [if_neg h1, if_neg h2]
  rw [e, Int.add_zero, Int.max_eq_left hm]
theorem run_par {b : Bool} {k : List KV} {j : Nat} (h : ∀ r o m, o ≤ m → runO (valsK k ++ r) o m = runO r o (max m (o + (j : Nat)))) (r : List Tx) (o m : Int) (hm : o ≤ m) :
    runO (valsK (parK b k) ++ r) o m = runO r o (max m (o + (((if b = true then 1 else 0) + j : Nat) : Int))) := by
  unfold parK
  cases b with
  | false =>
    rw [if_neg (by decide), if_neg (by decide), Nat.zero_add]
    exact h r o m hm
  | true =>
    rw [if_pos rfl, if_pos rfl]
    have e : valsK (sg (tx "(") :: (k ++ [sg (tx ")")])) ++ r = tx "(" :: (valsK k ++ (tx ")" :: r)) := by
      unfold valsK
      simp only [List.map_cons, List.map_append, List.map_nil, List.cons_append, List.append_assoc, List.nil_append]
      rfl
    rw [e]
    show runO (valsK k ++ (tx ")" :: r)) (o + dl (tx "(")) (max m (o + dl (tx "("))) = _
    rw [show dl (tx "(") = 1 from by decide, h _ _ _ (by omega)]
    show runO r (o + 1 + dl (tx ")")) (max _ (o + 1 + dl (tx ")"))) = _
    rw [show dl (tx ")") = -1 from by decide]
    have e1 : o + 1 + -1 = o := by omega
    rw [e1]
    congr 1
    omega
theorem run_core : ∀ c : Cl, Nms c → ∀ r o m, o ≤ m → runO (valsK (core c) ++ r) o m = runO r o (max m (o + (moc c : Nat)))
  | .word x, h, r, o, m, hm => by
    show runO (x :: r) o m = runO r o (max m (o + ((0 : Nat) : Int)))
    rw [run_other (nm_ne h (by decide)) (nm_ne h (by decide)) hm]
    congr 1
    omega
  | .non, h, r, o, m, hm => by
    show runO (tx "none" :: r) o m = runO r o (max m (o + ((0 : Nat) : Int)))
    rw [run_other (by decide) (by decide) hm]
    congr 1
    omega
  | .not a, h, r, o, m, hm => by
    show runO (tx "~" :: (valsK (parK _ (core a)) ++ r)) o m = _
    rw [run_other (by decide) (by decide) hm, run_par (run_core a h) r o m hm]
    congr 2
    have e : moc (.not a) = (if lineC a < 5 then 1 else 0) + moc a := rfl
    rw [e]
    by_cases z : lineC a < 5
    · rw [if_pos z, if_pos (decide_eq_true z)]
    · rw [if_neg z, if_neg (by rw [decide_eq_false z]; decide)]
  | .bin f a b, h, r, o, m, hm => by
    have e : valsK (core (.bin f a b)) ++ r = valsK (parK (decide (lineC a < leftF f)) (core a)) ++ (markF f :: (valsK (parK (decide (lineC b < rightF f)) (core b)) ++ r)) := by
      show valsK (parK _ (core a) ++ sg (markF f) :: parK _ (core b)) ++ r = _
      unfold valsK
      rw [List.map_append, List.map_cons, List.append_assoc, List.cons_append]
      rfl
    rw [e, run_par (run_core a h.1) _ o m hm, run_other (t := markF f) (mark_no f) (mark_no2 f) (by omega), run_par (run_core b h.2) r o _ (by omega)]
    have e2 : moc (.bin f a b) = max ((if lineC a < leftF f then 1 else 0) + moc a) ((if lineC b < rightF f then 1 else 0) + moc b) := rfl
    have e3 : (if decide (lineC a < leftF f) = true then 1 else 0) = if lineC a < leftF f then 1 else 0 := by
      by_cases z : lineC a < leftF f
      · rw [if_pos z, if_pos (decide_eq_true z)]
      · rw [if_neg z, if_neg (by rw [decide_eq_false z]; decide)]
    have e4 : (if decide (lineC b < rightF f) = true then 1 else 0) = if lineC b < rightF f then 1 else 0 := by
      by_cases z : lineC b < rightF f
      · rw [if_pos z, if_pos (decide_eq_true z)]
      · rw [if_neg z, if_neg (by rw [decide_eq_false z]; decide)]
    rw [e2, e3, e4]
    congr 1
    omega
theorem run_all {c : Cl} (h : Nms c) : runO (valsK (core c)) 0 0 = (moc c : Nat) := by
  have := run_core c h [] 0 0 (Int.le_refl _)
  rw [List.append_nil] at this
  rw [this]
  show max (0 : Int) (0 + (moc c : Nat)) = _
  omega
end K63
namespace K63
open PySem PySem.Spec L2 DL
local macro_rules | `(tactic| walk_at "rdv") => `(tactic| simp only [tdKGet, tdKGet2, tdGet2, tdPop, tdSeq, tdAsg, tdV, gdName, tdAnd, tdOr, tdNot, tdB, tdOp, tdCB, tdCons, tdNil, tdC, tdAug, tdSl, tdP, tdRet, tdTup, tdIf, tdIfS, gOrd, gI0, gI, gLen, gIx, gAdd, gInt, vw, ixP, gSl, tdDrop, tdRetN, tdNext, gIn_sc, gIn_ts, gIn_ls, gIn_t2, gIn_l2, gIn_l4, tdApp, sl_0, sl_1, sl_2, sl_3, sl_4, sl_5, ff, tt', true_and, id,
  eqS, tdFor, tdiT, tdiL, tdiR, tdXp, gList, gEq_ns, tdJoin, gJoin, vwS, gMul, gMod, gDiv, gPow, gI, tdAugS, gdSub, gSet, ixN_2, ixN_3, atI_3, atI_4, gEq_ss, gEq_ii, tdDict, tdPairs, tdNeg, Option.isNone_none, Option.isNone_some, gIsi, tdGet, tdDPut, tdDAug, tdIsN, tdNotN, DO.dic.injEq, Option.isNone_none, Option.isNone_some, gIn_l2, gIn_t2, Option.getD_some, tdLc, gMax, tdNoP, forR, tdRaise, tdCall, tdNotV, tdAndV, tdOrV, tdBox, tdZ, gdTup, gdCons, gdNil, tdBreak, tdCont, tdYes, icast, icast1, icast2, icast3, tdLst, gIn_l4, icastL, icastE, icastZ, ln_0, ln_1, ln_2, ln_3,
  List.getElem?_cons_zero, List.getElem?_cons_succ, List.set_cons_zero, List.set_cons_succ, Option.some.injEq, exists_eq_left', exists_eq_left, D.bl.injEq, decide_eq_true_eq,
  tdFldC, tdMeth, tdMake, tdPutF, tdAugF, D.ref.injEq, DO.ins.injEq, and_assoc, lk_cursor, lp_given, lp_same, lp_either, lp_both, lp_turned, lp_part, lp_definition, icE12, icE200, icS1, DL.gSub, D.int.injEq, D.str.injEq, sup_same, curF_len, eq_self, not_true_eq_false, not_false_eq_true, Bool.false_eq_true, Bool.not_eq_true, decide_not, atIn, atI_0, atI_1, atI_2, List.getElem?_map, Option.map_some, Option.map_none, tokD, decide_true, decide_false, Bool.not_true, Bool.not_false, if_true, if_false, lm_0, lm_1, lm_2, List.length_map, exists_and_left, lk_tokens, lk_length, lk_at, lk_opened, lm_at_end, lm_position, lm_refuse, lm_sees, lm_sees_kind, lm_take, lm_take_kind, lm_accept, lm_expect, lm_seen_of, lm_enter, lm_close, pu_at, pu_opened, *])
variable {P : Program} {w : World} {K : PySem.W.Frag} {mg : Str → Option Value} {base : Heap}
def rdD (t : Tx) : D := match readC t with
  | .ok x => trD x
  | .error _ => .non
def m_lread : M := fun ds S Q E => ∃ t : Tx, ds = [.str t] ∧ t.length ≤ 99000 ∧ ∀ S', Sub S S' → Q (rdD t) S'
theorem d__law_read (Z : Zf P w K mg base) : Ca P w K mg base 277 "_law_read" ["chunk"] m_lread := by
  obtain ⟨fd, F, hb⟩ := Z.F__law_read
  refine ⟨_, fd, df_of (k := 276) F sc__law_read (fun cdv A outer s H E F0 E' B => let k := 276; (dss_one (ds_tryO (k := k) 1 rfl rfl rfl B.room rfl ⟨rfl, by decide, .inl Z.g_RefusedChunk⟩ Z.xm (fun F1 pn xe E2 po B2 => (dss_one (ds_ret (de_ca (d_parse Z) (B2.mono (by omega)) rfl (da_cons (dv 0) da_nil))))) (fun F1 a oe pn => (dss_one (ds_ret de_non)))))) ?_, Z.g__law_read, F.kp, hb⟩
  rintro ds S Q E hl ⟨t, rfl, ht, hq⟩
  rw [show startD N__law_read [.str t] = [some (.str t)] from rfl]
  clear hl
  refine ⟨.str t, rfl, rfl, t, rfl, ht, ?_⟩
  unfold rdD at hq
  cases hk : readC t with
  | error i =>
    rw [hk] at hq
    exact fun S' hs => ⟨rfl, fini (hq S' hs)⟩
  | ok x =>
    rw [hk] at hq
    exact fini (hq S (Sub.refl S))
theorem tkk_len : ∀ (c : Cl) (n : Nat), (tkk c n).length ≤ lenB c
  | .word x, n => by
    unfold tkk parK
    show (if _ then _ else _ : List KV).length ≤ x.length + 4
    split <;> simp [core]
  | .non, n => by
    unfold tkk parK
    split <;> simp [core, lenB]
  | .not a, n => by
    have h := tkk_len a 5
    have e : lenB (.not a) = lenB a + 5 := rfl
    have e2 : (core (.not a)).length = (tkk a 5).length + 1 := rfl
    unfold tkk parK
    split
    · simp only [List.length_cons, List.length_append, List.length_nil]; omega
    · omega
  | .bin f a b, n => by
    have h := tkk_len a (leftF f)
    have h2 := tkk_len b (rightF f)
    have e : lenB (.bin f a b) = lenB a + lenB b + 7 := rfl
    have e2 : (core (.bin f a b)).length = (tkk a (leftF f)).length + ((tkk b (rightF f)).length + 1) := List.length_append
    unfold tkk parK
    split
    · simp only [List.length_cons, List.length_append, List.length_nil]; omega
    · omega
abbrev stsD (s : List Tx) : D := .lst (s.map D.str)
theorem len_sts (k : List KV) : (List.map D.str (valsK k)).length = k.length := by unfold valsK; rw [List.length_map, List.length_map]
def m_ltok (n : Nat) : M := fun ds S Q E => ∃ (c : Cl) (line : Nat), ds = [clD c, .int (line : Nat)] ∧ depth c ≤ n ∧ lenB c ≤ 5000 ∧ line ≤ 6 ∧ Q (stsD (valsK (tkk c line))) S
theorem vac_ltok (Z : Zf P w K mg base) (k : Nat) : Ca P w K mg base k "_law_tokens" ["claim", "line"] (m_ltok 0) := by
  obtain ⟨fd, F, hb⟩ := Z.F__law_tokens
  exact ⟨_, fd, df_vac fun _ _ _ _ ⟨c, _, _, h, _⟩ => by have := depth_pos c; omega, Z.g__law_tokens, F.kp, hb⟩
def ownD : List (DK × D) := [(.inr (tx "same"), .int 1), (.inr (tx "given"), .int 2), (.inr (tx "or"), .int 3), (.inr (tx "and"), .int 4), (.inr (tx "not"), .int 5)]
def mkD : List (DK × D) := [(.inr (tx "same"), .str (tx "<->")), (.inr (tx "given"), .str (tx "->")), (.inr (tx "or"), .str (tx "|")), (.inr (tx "and"), .str (tx "&"))]
theorem own_f (f : Fm) : valD ownD (.inr f.t) = some (.int (lineF f : Nat)) := by cases f <;> rfl
theorem own_n : valD ownD (.inr (tx "not")) = some (.int (5 : Nat)) := rfl
theorem mk_f (f : Fm) : valD mkD (.inr f.t) = some (.str (markF f)) := by cases f <;> rfl
theorem own_c {c : Cl} (h : lineC c ≤ 5) : valD (mergeD [] ownD) (.inr (headT c)) = some (.int (lineC c : Nat)) := by
  cases c with
  | word x => exact absurd h (by show ¬ 6 ≤ 5; decide)
  | non => exact absurd h (by decide)
  | not a => rfl
  | bin f a b => exact own_f f
theorem merge_own : mergeD [] ownD = ownD := rfl
theorem merge_mk : mergeD [] mkD = mkD := rfl
theorem d_ltok (Z : Zf P w K mg base) (n : Nat) (G : Ca P w K mg base (1 + n) "_law_tokens" ["claim", "line"] (m_ltok n)) : Ca P w K mg base (1 + n + 1) "_law_tokens" ["claim", "line"] (m_ltok (n + 1)) := by
  obtain ⟨fd, F, hb⟩ := Z.F__law_tokens
  refine ⟨_, fd, df_of (k := 1 + n) F sc__law_tokens (fun cdv A outer s H E F0 E' B => (dss_cons (ds_set 2 nd__law_tokens (de_ix (dv 0) de_int))
    (dss_cons (ds_if (dt_cmp od_in (dv 2) (de_lst (da_cons de_str (da_cons de_str da_nil))) rfl) (dss_one (ds_ret (de_lst (da_cons (de_ix (dv 0) (de_neg de_int)) da_nil)))) dss_nil)
    (dss_cons (ds_set 3 nd__law_tokens (de_get B.units1 (de_dict (.cons de_str de_int (.cons de_str de_int (.cons de_str de_int (.cons de_str de_int (.cons de_str de_int .nil)))))) (dv 2)))
    (dss_cons (ds_if (dt_cmp (od_eq B.units) (dv 2) de_str rfl) (dss_one (ds_set 4 nd__law_tokens (de_op od_add (de_lst (da_cons de_str da_nil)) (de_ca G (B.mono (by omega)) rfl (da_cons (de_ix (dv 0) de_int) (da_cons de_int da_nil)))))) (dss_cons (ds_set 5 nd__law_tokens (de_get B.units1 (de_dict (.cons de_str de_str (.cons de_str de_str (.cons de_str de_str (.cons de_str de_str .nil))))) (dv 2)))
    (dss_one (ds_set 4 nd__law_tokens (de_op od_add (de_op od_add (de_ca G (B.mono (by omega)) rfl (da_cons (de_ix (dv 0) de_int) (da_cons (de_op od_add (dv 3) (de_cT oc_int rfl Z.f_int bb_int (da_cons (de_cmp (od_ord op_lt) (dv 3) de_int rfl) da_nil))) da_nil))) (de_lst (da_cons (dv 5) da_nil))) (de_ca G (B.mono (by omega)) rfl (da_cons (de_ix (dv 0) de_int) (da_cons (de_op od_add (dv 3) (de_cT oc_int rfl Z.f_int bb_int (da_cons (de_cmp (od_ne B.units) (dv 3) de_int rfl) da_nil))) da_nil))))))))
    (dss_one (ds_ret (de_if (dt_cmp (od_ord op_lt) (dv 3) (dv 1) rfl) (de_op od_add (de_op od_add (de_lst (da_cons de_str da_nil)) (dv 4)) (de_lst (da_cons de_str da_nil))) (dv 4))))))))) ?_, Z.g__law_tokens, F.kp, hb⟩
  rintro ds S Q E hl ⟨c, line, rfl, hd, hlen, hline, hq⟩
  rw [show startD N__law_tokens [clD c, .int (line : Nat)] = [some (clD c), some (.int (line : Nat)), none, none, none, none] from rfl]
  clear hl
  refine seq_cut (fun ρ S' => ρ = [some (clD c), some (.int (line : Nat)), some (.str (headT c)), none, none, none] ∧ S' = S) (fun Rest hR => ?_) ?_
  · rw [clD_head]
    walk_at "rdv"
    rw [← clD_head]
    exact hR _ _ ⟨rfl, rfl⟩
  rintro ρ S' ⟨rfl, rfl⟩
  have htk := tkk_len c line
  refine seq_cut (fun ρ S1 => lineC c ≤ 5 ∧ ρ = [some (clD c), some (.int (line : Nat)), some (.str (headT c)), none, none, none] ∧ S1 = S') (fun Rest hR => ?_) ?_
  · walk_at "rdv"
    cases c with
    | word x =>
      rw [show headT (.word x) = tx "word" from rfl, show clD (.word x) = .tup [.str (tx "word"), .str x] from rfl]
      rw [if_pos (show tx "word" ∈ [tx "word", tx "none"] by decide)]
      rw [tkk_own _ _ (show line ≤ 6 from hline)] at hq
      exact ⟨.str x, rfl, fini hq⟩
    | non =>
      rw [if_pos (show headT .non ∈ [tx "word", tx "none"] by decide)]
      rw [tkk_own _ _ (show line ≤ 6 from hline)] at hq
      exact ⟨.str (tx "none"), rfl, fini hq⟩
    | not a => rw [if_neg (show ¬ (headT (.not a) ∈ [tx "word", tx "none"]) from show ¬ (tx "not" ∈ [tx "word", tx "none"]) by decide)]; exact hR _ _ ⟨Nat.le_refl _, rfl, rfl⟩
    | bin f a b => rw [if_neg (show ¬ (headT (.bin f a b) ∈ [tx "word", tx "none"]) from show ¬ (f.t ∈ [tx "word", tx "none"]) by cases f <;> decide)]; exact hR _ _ ⟨show lineF f ≤ 5 by cases f <;> decide, rfl, rfl⟩
  rintro ρ S1 ⟨hc5, rfl, rfl⟩
  refine seq_cut (fun ρ S2 => Sub S1 S2 ∧ ρ = [some (clD c), some (.int (line : Nat)), some (.str (headT c)), some (.int (lineC c : Nat)), none, none]) (fun Rest hR => ?_) ?_
  · walk_at "rdv"
    exact ⟨ownD, rfl, by decide, fun p hp => ⟨.inr (headT c), rfl, .int (lineC c : Nat), own_c hc5, hR _ _ ⟨Sub.sup hp, rfl⟩⟩⟩
  rintro ρ S2 ⟨hs2, rfl⟩
  refine seq_cut (fun ρ S3 => Sub S1 S3 ∧ ∃ x, ρ = [some (clD c), some (.int (line : Nat)), some (.str (headT c)), some (.int (lineC c : Nat)), some (stsD (valsK (core c))), x]) (fun Rest hR => ?_) ?_
  · cases c with
    | word x => exact absurd hc5 (by show ¬ 6 ≤ 5; decide)
    | non => exact absurd hc5 (by decide)
    | not a =>
      have hd' : 1 + depth a ≤ n + 1 := hd
      have hlen' : lenB a + 5 ≤ 5000 := hlen
      rw [show clD (.not a) = .tup [.str (tx "not"), clD a] from rfl, show headT (.not a) = tx "not" from rfl] at hR ⊢
      walk_at "rdv"
      refine ⟨a, 5, rfl, by omega, by omega, by omega, ?_⟩
      have h1 := tkk_len a 5
      show 1 + (List.map D.str (valsK (tkk a 5))).length ≤ sizeLine ∧ Rest _ S2
      rw [len_sts]
      exact ⟨sz5 (by omega), hR _ _ ⟨hs2, _, rfl⟩⟩
    | bin f a b =>
      have hd' : 1 + max (depth a) (depth b) ≤ n + 1 := hd
      have hlen' : lenB a + lenB b + 7 ≤ 5000 := hlen
      rw [show clD (.bin f a b) = .tup [.str f.t, clD a, clD b] from rfl, show headT (.bin f a b) = f.t from rfl, show lineC (.bin f a b) = lineF f from rfl] at hR ⊢
      have eL : (lineF f : Int) + (if (lineF f : Int) < 3 then 1 else 0) = (leftF f : Nat) := by cases f <;> rfl
      have eR : (lineF f : Int) + (if (!decide ((lineF f : Int) = 2)) = true then 1 else 0) = (rightF f : Nat) := by cases f <;> rfl
      have h1 := tkk_len a (leftF f)
      have h2 := tkk_len b (rightF f)
      have l1 : leftF f ≤ 6 := by cases f <;> decide
      have l2 : rightF f ≤ 6 := by cases f <;> decide
      walk_at "rdv"
      rw [if_neg (show ¬ f.t = tx "not" by cases f <;> decide)]
      refine ⟨mkD, rfl, by decide, fun p hp => ⟨.inr f.t, rfl, .str (markF f), mk_f f, a, leftF f, rfl, by omega, by omega, l1, ?_⟩⟩
      show (List.map D.str (valsK (tkk a (leftF f)))).length + 1 ≤ sizeLine ∧ m_ltok n _ _ _ E
      rw [len_sts]
      refine ⟨sz5 (by omega), b, rightF f, rfl, by omega, by omega, l2, ?_⟩
      have e1 : (List.map D.str (valsK (tkk a (leftF f))) ++ [D.str (markF f)]).length = (tkk a (leftF f)).length + 1 := by rw [List.length_append, len_sts]; rfl
      show (List.map D.str (valsK (tkk a (leftF f))) ++ [D.str (markF f)]).length + (List.map D.str (valsK (tkk b (rightF f)))).length ≤ sizeLine ∧ Rest _ _
      rw [e1, len_sts]
      refine ⟨sz5 (by omega), hR _ _ ⟨Sub.sup2 hs2 (by
        cases q : S1 p with
        | none => rfl
        | some o => rw [hs2 _ _ q] at hp; cases hp), some (.str (markF f)), ?_⟩⟩
      have e2 : stsD (valsK (core (.bin f a b))) = .lst (List.map D.str (valsK (tkk a (leftF f))) ++ [D.str (markF f)] ++ List.map D.str (valsK (tkk b (rightF f)))) := by
        show D.lst (List.map D.str (valsK (tkk a (leftF f) ++ sg (markF f) :: tkk b (rightF f)))) = _
        unfold valsK
        simp only [List.map_append, List.map_cons, List.append_assoc, List.cons_append, List.nil_append]
        rfl
      rw [e2]
  rintro ρ S3 ⟨hs3, x, rfl⟩
  walk_at "rdv"
  unfold tkk parK at hq
  have hlt : (core c).length + 2 ≤ 6000 := by
    have := tkk_len c 1
    rw [core_1] at this
    omega
  by_cases hlt2 : lineC c < line
  · rw [if_pos hlt2]
    rw [if_pos (decide_eq_true hlt2)] at hq
    have e : ([D.str (tx "(")] ++ List.map D.str (valsK (core c))).length = 1 + (core c).length := by rw [List.length_append, len_sts]; rfl
    have e2 : D.lst ([D.str (tx "(")] ++ List.map D.str (valsK (core c)) ++ [D.str (tx ")")]) = stsD (valsK (sg (tx "(") :: (core c ++ [sg (tx ")")]))) := by
      show _ = D.lst _
      unfold valsK
      simp only [List.map_cons, List.map_append, List.map_nil, List.cons_append, List.nil_append]
      rfl
    rw [e, e2]
    refine ⟨?_, sz5 (show 1 + (core c).length + 1 ≤ _ by omega), fini' hs3 hq⟩
    show 1 + (valsK (core c)).length ≤ sizeLine
    rw [show (valsK (core c)).length = (core c).length from List.length_map _]
    exact sz5 (by omega)
  · rw [if_neg hlt2]
    rw [if_neg (by rw [decide_eq_false hlt2]; decide)] at hq
    exact fini' hs3 hq
theorem ltoks (Z : Zf P w K mg base) : ∀ n : Nat, Ca P w K mg base (1 + n) "_law_tokens" ["claim", "line"] (m_ltok n)
  | 0 => vac_ltok Z _
  | n + 1 => d_ltok Z n (ltoks Z n)
def pD : List (DK × D) := [(.inr (tx "("), .int 1), (.inr (tx ")"), .int (-1))]
theorem pD_dl (t : Tx) : ((valD (mergeD [] pD) (.inr t)).getD (.int 0)) = .int (dl t) := by
  have e : mergeD [] pD = pD := rfl
  rw [e]
  unfold pD valD dl
  by_cases h : t = tx "("
  · subst h
    rw [if_pos rfl, if_pos rfl]
    rfl
  · rw [if_neg (fun z => h (by injection z with z; exact z.symm)), if_neg h]
    unfold valD
    by_cases h2 : t = tx ")"
    · subst h2
      rw [if_pos rfl, if_pos rfl]
      rfl
    · rw [if_neg (fun z => h2 (by injection z with z; exact z.symm)), if_neg h2]
      rfl
def m_most : M := fun ds S Q E => ∃ vs : List Tx, ds = [stsD vs] ∧ vs.length ≤ 6000 ∧ ∀ S', Sub S S' → Q (.int (runO vs 0 0)) S'
theorem dl_in (t : Tx) : -1 ≤ dl t ∧ dl t ≤ 1 := by
  unfold dl
  split
  · omega
  · split <;> omega
theorem d__law_most_open (Z : Zf P w K mg base) : Ca P w K mg base 1 "_law_most_open" ["tokens"] m_most := by
  obtain ⟨fd, F, hb⟩ := Z.F__law_most_open
  refine ⟨_, fd, df_of (k := 0) F sc__law_most_open (fun cdv A outer s H E F0 E' B => (dss_cons (ds_set 1 nd__law_most_open de_int)
    (dss_cons (ds_set 2 nd__law_most_open de_int)
    (dss_cons (ds_for (passes_of rfl) rfl (di_lst (dv 0)) (dg_name 3 nd__law_most_open) (dss_cons (ds_aug 1 nd__law_most_open (de_get2 B.units1 (de_dict (.cons de_str de_int (.cons de_str (de_neg de_int) .nil))) (dv 3) de_int) dip_add)
    (dss_one (ds_set 2 nd__law_most_open (de_cB (oc_max2 rfl) rfl Z.f_max bb_max (da_cons (dv 2) (da_cons (dv 1) da_nil)))))))
    (dss_one (ds_ret (dv 2))))))) ?_, Z.g__law_most_open, F.kp, hb⟩
  rintro ds S Q E hl ⟨vs, rfl, hlen, hq⟩
  rw [show startD N__law_most_open [stsD vs] = [some (stsD vs), none, none, none] from rfl]
  clear hl
  walk_at "rdv"
  refine for_ind (fun ds ρ S' => ∃ (r : List Tx) (o m : Int) (x : Option D), ds = r.map D.str ∧ runO r o m = runO vs 0 0 ∧ ρ = [some (stsD vs), some (.int o), some (.int m), x] ∧ Sub S S') ?_ ?_ _ _ _ ⟨vs, 0, 0, none, rfl, rfl, rfl, Sub.refl S⟩
  · rintro ρ S' ⟨r, o, m, x, e1, e2, rfl, hs⟩
    have hr : r = [] := by
      cases r with
      | nil => rfl
      | cons a b => cases e1
    subst hr
    walk_at "rdv"
    have e3 : m = runO vs 0 0 := e2
    rw [e3]
    exact fini (hq S' hs)
  · rintro d ds ρ S' W hW ⟨r, o, m, x, e1, e2, rfl, hs⟩
    cases r with
    | nil => cases e1
    | cons t r =>
      injection e1 with e1 e3
      subst e1 e3
      walk_at "rdv"
      refine ⟨pD, rfl, by decide, fun p hp => ⟨.inr t, rfl, ?_⟩⟩
      rw [pD_dl]
      refine hW _ _ ⟨r, o + dl t, max m (o + dl t), _, rfl, e2, rfl, Sub.sup2 hs ?_⟩
      cases q : S p with
      | none => rfl
      | some u => rw [hs _ _ q] at hp; cases hp
def vals (L : List Tok) : List Tx := L.map fun k => k.2.1
theorem keep_snoc {α : Type} (ws : List Nat) : ∀ (s : List α) (k : Nat) (x : α), keep ws k (s ++ [x]) = if k + s.length ∈ ws then keep ws k s else keep ws k s ++ [x]
  | [], k, x => by
    show (if k ∈ ws then [] else [x]) = _
    rw [List.length_nil, Nat.add_zero]
    rfl
  | y :: s, k, x => by
    show (if k ∈ ws then keep ws (k + 1) (s ++ [x]) else y :: keep ws (k + 1) (s ++ [x])) = if _ then (if k ∈ ws then keep ws (k + 1) s else y :: keep ws (k + 1) s) else (if k ∈ ws then keep ws (k + 1) s else y :: keep ws (k + 1) s) ++ [x]
    rw [keep_snoc ws s (k + 1) x]
    have e : k + 1 + s.length = k + (y :: s).length := by rw [List.length_cons]; omega
    rw [e]
    split
    · split <;> rfl
    · split <;> rfl
def m_joined : M := fun ds S Q E => ∃ (L : List Tok) (ws : List Nat) (b : Tx), ds = [.lst (L.map tokD), .lst (ws.map fun (i : Nat) => D.int (i : Nat)), .str b] ∧ L.length ≤ 1000 ∧ ((vals L).map (·.length)).sum ≤ 5000 ∧ b.length ≤ 10 ∧ Q (.str (joinT b (keep ws 0 (vals L)))) S
theorem keep_sum (ws : List Nat) : ∀ (k : Nat) (s : List Tx), ((keep ws k s).map (·.length)).sum ≤ (s.map (·.length)).sum
  | _, [] => Nat.le_refl _
  | k, x :: r => by
    have h := keep_sum ws (k + 1) r
    unfold keep
    split
    · rw [List.map_cons, List.sum_cons]; omega
    · rw [List.map_cons, List.sum_cons, List.map_cons, List.sum_cons]; omega
theorem d__law_joined (Z : Zf P w K mg base) : Ca P w K mg base 1 "_law_joined" ["tokens", "without", "blank"] m_joined := by
  obtain ⟨fd, F, hb⟩ := Z.F__law_joined
  refine ⟨_, fd, df_of (k := 0) F sc__law_joined (fun cdv A outer s H E F0 E' B => (dss_one (ds_ret (de_join (dv 2) (de_lc rfl nd__law_joined (di_rng rfl Z.f_range (da_cons (de_cB oc_len rfl Z.f_len bb_len (da_cons (dv 0) da_nil)) da_nil)) (blkOk_by (own := [("k", 3)]) (N := N__law_joined) (sc := defScope st__law_joined) (by decide +kernel)) (fun _ _ _ _ _ => pg_name (i := 3) nd__law_joined rfl (Or.inl rfl)) (fun _ _ _ _ _ => (dts_one (dt_cmp od_nin (dv 3) (dv 1) rfl))) (fun _ _ _ _ _ => (de_ix (de_ix (dv 0) (dv 3)) de_int))))))) ?_, Z.g__law_joined, F.kp, hb⟩
  rintro ds S Q E hl ⟨L, ws, b, rfl, hL, hv, hb10, hq⟩
  rw [show startD N__law_joined [.lst (L.map tokD), .lst (ws.map fun (i : Nat) => D.int (i : Nat)), .str b] = [some (.lst (L.map tokD)), some (.lst (ws.map fun (i : Nat) => D.int (i : Nat))), some (.str b), none] from rfl]
  clear hl
  walk_at "rdv"
  refine ⟨⟨_, rfl⟩, ?_⟩
  show -2 ^ 62 ≤ ((L.length : Nat) : Int) ∧ ((L.length : Nat) : Int) < 2 ^ 62 ∧ lcR _ _ _ _ _ _ _ _
  refine ⟨by omega, by omega, ?_⟩
  rw [rngD_eq]
  refine lc_ind (fun ds acc S' => ∃ k m, ds = (List.range' k m).map (fun i => D.int ((i : Nat) : Int)) ∧ k + m = L.length ∧ acc = (keep ws 0 ((vals L).take k)).map D.str ∧ S' = S) ?_ ?_ _ _ _ ⟨0, L.length, rfl, by omega, rfl, rfl⟩
  · rintro acc S' ⟨k, m, e1, e2, rfl, rfl⟩
    have hm : m = 0 := by
      cases m with
      | zero => rfl
      | succ m => rw [List.range'_succ] at e1; cases e1
    have hk : (vals L).take k = vals L := List.take_of_length_le (by unfold vals; rw [List.length_map]; omega)
    rw [hk]
    have h3 := keep_sum ws 0 (vals L)
    have h5 : (keep ws 0 (vals L)).length ≤ L.length := by
      have := keep_len (ws := ws) (k := 0) (s := vals L)
      unfold vals at this ⊢
      rw [List.length_map] at this
      exact this
    have h6 : (keep ws 0 (vals L)).length * b.length ≤ 1000 * 10 := Nat.mul_le_mul (by omega) hb10
    exact ⟨_, txsD_of _, by omega, fini hq⟩
  · rintro d ds acc S' W hW ⟨k, m, e1, e2, rfl, rfl⟩
    cases m with
    | zero => cases e1
    | succ m =>
      rw [List.range'_succ, List.map_cons] at e1
      injection e1 with e1 e3
      subst e1 e3
      have hk : k < L.length := by omega
      have hg : L[k]? = some L[k] := List.getElem?_eq_getElem hk
      walk_at "rdv"
      have eW : List.map (fun (i : Nat) => D.int (i : Nat)) ws = (ws.map (fun (i : Nat) => (i : Int))).map D.int := by rw [List.map_map]; rfl
      have hmem : ((k : Nat) : Int) ∈ ws.map (fun (i : Nat) => (i : Int)) ↔ k ∈ ws := by
        rw [List.mem_map]
        exact ⟨fun ⟨a, h1, h2⟩ => by have : a = k := by omega
                                     rw [← this]; exact h1, fun h => ⟨k, h, rfl⟩⟩
      have et : (vals L).take (k + 1) = (vals L).take k ++ [L[k].2.1] := by
        rw [List.take_add_one]
        unfold vals
        rw [List.getElem?_map, hg]
        rfl
      have el : ((vals L).take k).length = k := by
        unfold vals
        rw [List.length_take, List.length_map]
        omega
      have hle : (keep ws 0 ((vals L).take k)).length ≤ k := by
        have := keep_len (ws := ws) (k := 0) (s := (vals L).take k)
        omega
      rw [eW, gIn_int]
      refine ⟨_, rfl, ?_⟩
      by_cases hw : k ∈ ws
      · rw [if_neg (by rw [decide_eq_true (hmem.mpr hw)]; decide)]
        refine hW _ _ ⟨k + 1, m, rfl, by omega, ?_, rfl⟩
        rw [et, keep_snoc, if_pos (by rw [el, Nat.zero_add]; exact hw)]
      · rw [if_pos (by rw [decide_eq_false (fun z => hw (hmem.mp z))]; decide)]
        refine ⟨Nat.lt_of_lt_of_le (show _ < 1000 + 1 by omega) (sz5 (by omega)), hW _ _ ⟨k + 1, m, rfl, by omega, ?_, rfl⟩⟩
        rw [et, keep_snoc, if_neg (by rw [el, Nat.zero_add]; exact hw), List.map_append]
        rfl
theorem sup_swap {S : Store} {a b : Addr} {x y z : DO} (h : b ≠ a) : sup (sup (sup S a x) b y) a z = sup (sup S a z) b y := by
  funext d
  unfold sup
  by_cases h1 : d = a
  · rw [if_pos h1, if_neg (by rw [h1]; exact h.symm), if_pos h1]
  · rw [if_neg h1, if_neg h1, if_neg h1]
def pairD (p : Nat × Nat) : D := .tup [.int (p.1 : Nat), .int (p.2 : Nat)]
/-- the places that are told -/
def PairOk (L : List Tok) (p : Nat × Nat) : Prop := ∃ k, L[p.1]? = some k ∧ k.2.1 = tx "("
def m_pairs : M := fun ds S Q E => ∃ L : List Tok, ds = [.lst (L.map tokD)] ∧ L.length ≤ 1000 ∧ Bal (L.map kv) 0 ∧ ∀ (ps : List (Nat × Nat)) S', (∀ p ∈ ps, PairOk L p) → Sub S S' → Q (.lst (ps.map pairD)) S'
theorem d__law_pairs (Z : Zf P w K mg base) : Ca P w K mg base 1 "_law_pairs" ["tokens"] m_pairs := by
  obtain ⟨fd, F, hb⟩ := Z.F__law_pairs
  refine ⟨_, fd, df_of (k := 0) F sc__law_pairs (fun cdv A outer s H E F0 E' B => (dss_cons (ds_set 1 nd__law_pairs (de_box da_nil))
    (dss_cons (ds_set 2 nd__law_pairs (de_box da_nil))
    (dss_cons (ds_for (passes_of rfl) rfl (di_rng rfl Z.f_range (da_cons (de_cB oc_len rfl Z.f_len bb_len (da_cons (dv 0) da_nil)) da_nil)) (dg_name 3 nd__law_pairs) (dss_cons (ds_if (dt_cmp (od_eq B.units) (de_ix (de_ix (dv 0) (dv 3)) de_int) de_str rfl) (dss_one (ds_expr (de_app (dv 1) (dv 3)))) dss_nil)
    (dss_one (ds_if (dt_cmp (od_eq B.units) (de_ix (de_ix (dv 0) (dv 3)) de_int) de_str rfl) (dss_one (ds_expr (de_app (dv 2) (de_tup (da_cons (de_pop (dv 1)) (da_cons (dv 3) da_nil)))))) dss_nil))))
    (dss_one (ds_ret (dz 2))))))) ?_, Z.g__law_pairs, F.kp, hb⟩
  rintro ds S Q E hl ⟨L, rfl, hL, hbal, hq⟩
  rw [show startD N__law_pairs [.lst (L.map tokD)] = [some (.lst (L.map tokD)), none, none, none] from rfl]
  clear hl
  refine seq_cut (fun ρ S' => ∃ a, S a = none ∧ ρ = [some (.lst (L.map tokD)), some (.ref a), none, none] ∧ S' = sup S a (.lst [])) (fun Rest hR => ?_) ?_
  · walk_at "rdv"
    exact fun a ha => hR _ _ ⟨a, ha, rfl, rfl⟩
  rintro ρ S' ⟨a, ha, rfl, rfl⟩
  refine seq_cut (fun ρ S' => ∃ b, S b = none ∧ b ≠ a ∧ ρ = [some (.lst (L.map tokD)), some (.ref a), some (.ref b), none] ∧ S' = sup (sup S a (.lst [])) b (.lst [])) (fun Rest hR => ?_) ?_
  · walk_at "rdv"
    refine fun b hb => ?_
    have hba : b ≠ a := fun z => by rw [z, sup_same] at hb; cases hb
    exact hR _ _ ⟨b, by rw [sup_ne hba] at hb; exact hb, hba, rfl, rfl⟩
  rintro ρ S' ⟨b, hb0, hba, rfl, rfl⟩
  walk_at "rdv"
  show -2 ^ 62 ≤ ((L.length : Nat) : Int) ∧ ((L.length : Nat) : Int) < 2 ^ 62 ∧ forR _ _ _ _ _ _
  refine ⟨by omega, by omega, ?_⟩
  rw [rngD_eq]
  refine for_ind (fun ds ρ S' => ∃ (k m : Nat) (st : List Nat) (ps : List (Nat × Nat)) (x : Option D), ds = (List.range' k m).map (fun i => D.int ((i : Nat) : Int)) ∧ k + m = L.length ∧ ρ = [some (.lst (L.map tokD)), some (.ref a), some (.ref b), x] ∧
    S' = sup (sup S a (.lst (st.map fun (i : Nat) => D.int (i : Nat)))) b (.lst (ps.map pairD)) ∧ st.length ≤ k ∧ ps.length ≤ k ∧ Bal ((L.map kv).drop k) st.length ∧ (∀ i ∈ st, ∃ q, L[i]? = some q ∧ q.2.1 = tx "(") ∧ ∀ p ∈ ps, PairOk L p) ?_ ?_ _ _ _
      ⟨0, L.length, [], [], none, rfl, by omega, rfl, rfl, Nat.le_refl _, Nat.le_refl _, hbal, fun _ z => (nomatch z), fun _ z => (nomatch z)⟩
  · rintro ρ S' ⟨k, m, st, ps, x, e1, e2, rfl, rfl, h1, h2, h3, h4, h5⟩
    walk_at "rdv"
    refine ⟨_, rfl, ?_⟩
    rw [sdel_sup (by rw [sup_ne hba]; exact hb0)]
    exact fini (hq ps _ h5 (Sub.sup ha))
  · rintro d ds ρ S' W hW ⟨k, m, st, ps, x, e1, e2, rfl, rfl, h1, h2, h3, h4, h5⟩
    cases m with
    | zero => cases e1
    | succ m =>
      rw [List.range'_succ, List.map_cons] at e1
      injection e1 with e1 e3
      subst e1 e3
      have hk : k < L.length := by omega
      have hg : L[k]? = some L[k] := List.getElem?_eq_getElem hk
      have hd : (L.map kv).drop k = kv L[k] :: (L.map kv).drop (k + 1) := by
        rw [List.drop_eq_getElem_cons (by rw [List.length_map]; exact hk)]
        congr 1
        rw [List.getElem_map]
      rw [hd] at h3
      have hlim : (1001 : Nat) ≤ sizeLine := sz5 (by omega)
      refine seq_cut (fun ρ S' => ∃ st' : List Nat, ρ = [some (.lst (L.map tokD)), some (.ref a), some (.ref b), some (.int (k : Nat))] ∧ S' = sup (sup S a (.lst (st'.map fun (i : Nat) => D.int (i : Nat)))) b (.lst (ps.map pairD)) ∧ st'.length ≤ k + 1 ∧
        (if L[k].2.1 = tx ")" then 1 ≤ st'.length ∧ Bal ((L.map kv).drop (k + 1)) (st'.length - 1) else Bal ((L.map kv).drop (k + 1)) st'.length) ∧ ∀ i ∈ st', ∃ q, L[i]? = some q ∧ q.2.1 = tx "(") (fun Rest hR => ?_) ?_
      · walk_at "rdv"
        unfold Bal at h3
        by_cases hv : L[k].2.1 = tx "("
        · rw [if_pos hv]
          rw [if_pos (show (kv L[k]).2 = tx "(" from hv)] at h3
          have eA : sup (sup S a (.lst (st.map fun (i : Nat) => D.int (i : Nat)))) b (.lst (ps.map pairD)) a = some (.lst (st.map fun (i : Nat) => D.int (i : Nat))) := by rw [sup_ne hba.symm, sup_same]
          refine ⟨⟨_, eA⟩, _, eA, by rw [List.length_map]; omega, hR _ _ ⟨st ++ [k], rfl, ?_, ?_, ?_, ?_⟩⟩
          · rw [sup_swap hba, List.map_append]
            rfl
          · rw [List.length_append]
            show st.length + 1 ≤ _
            omega
          · rw [if_neg (by rw [hv]; decide), List.length_append]
            exact h3
          · intro i hi
            rcases List.mem_append.mp hi with z | z
            · exact h4 i z
            · rw [List.mem_singleton.mp z]
              exact ⟨_, hg, hv⟩
        · rw [if_neg hv]
          rw [if_neg (show ¬ (kv L[k]).2 = tx "(" from hv)] at h3
          exact hR _ _ ⟨st, rfl, rfl, by omega, h3, h4⟩
      · rintro ρ S' ⟨st', rfl, rfl, k1, k2, k3⟩
        walk_at "rdv"
        by_cases hv : L[k].2.1 = tx ")"
        · rw [if_pos hv] at k2 ⊢
          obtain ⟨c1, c2⟩ := k2
          have eA : sup (sup S a (.lst (st'.map fun (i : Nat) => D.int (i : Nat)))) b (.lst (ps.map pairD)) a = some (.lst (st'.map fun (i : Nat) => D.int (i : Nat))) := by rw [sup_ne hba.symm, sup_same]
          have hl2 : st'.length - 1 < st'.length := by omega
          have hlast : st'[st'.length - 1]? = some st'[st'.length - 1] := List.getElem?_eq_getElem hl2
          refine ⟨⟨_, rfl⟩, _, eA, .int (st'[st'.length - 1] : Nat), ?_, ps.map pairD, ?_, by rw [List.length_map]; omega, hW _ _ ⟨k + 1, m, st'.dropLast, ps ++ [(st'[st'.length - 1], k)], _, rfl, by omega, rfl, ?_, ?_, ?_, ?_, ?_, ?_⟩⟩
          · rw [List.length_map, List.getElem?_map, hlast]
            rfl
          · rw [sup_swap hba, sup_same]
          · rw [sup_swap hba, sup_sup, List.map_append, List.map_dropLast]
            rfl
          · rw [List.length_dropLast]; omega
          · rw [List.length_append]
            show ps.length + 1 ≤ _
            omega
          · rw [List.length_dropLast]; exact c2
          · exact fun i hi => k3 i (List.dropLast_subset _ hi)
          · intro p hp
            rcases List.mem_append.mp hp with z | z
            · exact h5 p z
            · rw [List.mem_singleton.mp z]
              exact k3 _ (List.getElem_mem hl2)
        · rw [if_neg hv] at k2 ⊢
          exact hW _ _ ⟨k + 1, m, st', ps, _, rfl, by omega, rfl, rfl, k1, by omega, k2, k3, h5⟩
structure OneL (t : Tx) : Prop where
  hd : ∃ c r, t = c :: r ∧ c ∈ lowT
  nl : ∀ c ∈ t, c ≠ 10
  ln : t.length ≤ 99000
theorem in_blank {c : Nat} : ([c] ∈ [tx " ", tx "\n"]) ↔ (c = 32 ∨ c = 10) := by
  simp only [List.mem_cons, List.not_mem_nil, or_false]
  show ([c] = [32] ∨ [c] = [10]) ↔ _
  simp
def m_starts : M := fun ds S Q E => ∃ t : Tx, ds = [.str t] ∧ OneL t ∧ Q (.lst [.int 0]) S
theorem d_line_starts (Z : Zf P w K mg base) : Ca P w K mg base 1 "line_starts" ["text"] m_starts := by
  obtain ⟨fd, F, hb⟩ := Z.F_line_starts
  refine ⟨_, fd, df_of (k := 0) F sc_line_starts (fun cdv A outer s H E F0 E' B => (dss_cons (ds_set 1 nd_line_starts (de_box da_nil))
    (dss_cons (ds_for (passes_of rfl) rfl (di_rng rfl Z.f_range (da_cons (de_cB oc_len rfl Z.f_len bb_len (da_cons (dv 0) da_nil)) da_nil)) (dg_name 2 nd_line_starts) (dss_one (ds_if (PW.pt (dw_and (dt_cmp od_nin (de_ix (dv 0) (dv 2)) (de_tup (da_cons de_str (da_cons de_str da_nil))) rfl) (dw_and1 (PW.pt (dw_or (dt_cmp (od_eq B.units) (dv 2) de_int rfl) (dw_or1 (dt_cmp (od_eq B.units) (de_ix (dv 0) (de_op od_sub (dv 2) de_int)) de_str rfl))))))) (dss_one (ds_expr (de_app (dv 1) (dv 2)))) dss_nil)))
    (dss_one (ds_ret (dz 1)))))) ?_, Z.g_line_starts, F.kp, hb⟩
  rintro ds S Q E hl ⟨t, rfl, ⟨⟨c, r, rfl, hc⟩, hnl, hln⟩, hq⟩
  rw [show startD N_line_starts [.str (c :: r)] = [some (.str (c :: r)), none, none] from rfl]
  clear hl
  have fin : (c :: r).length ≤ sizeLine := sz5 (by omega)
  refine seq_cut (fun ρ S' => ∃ a, S a = none ∧ ρ = [some (.str (c :: r)), some (.ref a), none] ∧ S' = sup S a (.lst [])) (fun Rest hR => ?_) ?_
  · walk_at "rdv"
    exact fun a ha => hR _ _ ⟨a, ha, rfl, rfl⟩
  rintro ρ S' ⟨a, ha, rfl, rfl⟩
  walk_at "rdv"
  refine ⟨by omega, by omega, ?_⟩
  rw [rngD_eq]
  refine for_ind (fun ds ρ S' => ∃ (k m : Nat) (x : Option D), ds = (List.range' k m).map (fun i => D.int ((i : Nat) : Int)) ∧ k + m = (c :: r).length ∧ ρ = [some (.str (c :: r)), some (.ref a), x] ∧ S' = sup S a (.lst (if k = 0 then [] else [.int 0]))) ?_ ?_ _ _ _
      ⟨0, (c :: r).length, none, rfl, by omega, rfl, rfl⟩
  · rintro ρ S' ⟨k, m, x, e1, e2, rfl, rfl⟩
    have hm : m = 0 := by
      cases m with
      | zero => rfl
      | succ m => rw [List.range'_succ] at e1; cases e1
    walk_at "rdv"
    rw [if_neg (by rw [List.length_cons] at e2; omega)]
    refine ⟨_, rfl, ?_⟩
    rw [sdel_sup ha]
    exact fini hq
  · rintro d ds ρ S' W hW ⟨k, m, x, e1, e2, rfl, rfl⟩
    cases m with
    | zero => cases e1
    | succ m =>
      rw [List.range'_succ, List.map_cons] at e1
      injection e1 with e1 e3
      subst e1 e3
      have hk : k < (c :: r).length := by omega
      have hg : (c :: r)[k]? = some (c :: r)[k] := List.getElem?_eq_getElem hk
      walk_at "rdv"
      by_cases hz : k = 0
      · subst hz
        rw [if_pos (show (!decide ([(c :: r)[0]] ∈ blankT)) = true by rw [decide_eq_false (low_nb (c := (c :: r)[0]) hc)]; rfl), if_pos rfl]
        refine ⟨⟨_, rfl⟩, _, rfl, sz1, ?_⟩
        rw [sup_sup]
        exact hW _ _ ⟨1, m, _, rfl, by omega, rfl, rfl⟩
      · have out : W [some (.str (c :: r)), some (.ref a), some (.int (k : Nat))] (sup S a (.lst (if k = 0 then [] else [.int 0]))) :=
          hW _ _ ⟨k + 1, m, _, rfl, by omega, rfl, by rw [if_neg hz, if_neg (Nat.succ_ne_zero k)]⟩
        by_cases hb : [(c :: r)[k]] ∈ [tx " ", tx "\n"]
        · rw [if_neg (by rw [decide_eq_true hb]; decide)]
          exact out
        · rw [if_pos (by rw [decide_eq_false hb]; decide), if_neg hz]
          have hk1 : k - 1 < (c :: r).length := by omega
          have e1 : ((k : Nat) : Int) - 1 = ((k - 1 : Nat) : Int) := by omega
          refine ⟨.str [(c :: r)[k - 1]], ?_, ?_⟩
          · rw [e1, atIn, List.getElem?_eq_getElem hk1]
            rfl
          · rw [gEq_ss]
            refine ⟨false, ?_, ?_⟩
            · have hne : ¬ ([(c :: r)[k - 1]] = tx "\n") := fun z => by
                have z2 : [(c :: r)[k - 1]] = [10] := z
                have z3 : (c :: r)[k - 1] = 10 := by simpa using z2
                exact hnl _ (List.getElem_mem hk1) z3
              show D.bl (id (decide _)) = _
              rw [decide_eq_false hne]
              rfl
            · rw [if_neg (by decide)]
              exact out
end K63
namespace K63
open PySem PySem.Spec L2 DL
local macro_rules | `(tactic| walk_at "rdv") => `(tactic| simp only [tdKGet, tdKGet2, tdGet2, tdPop, tdSeq, tdAsg, tdV, gdName, tdAnd, tdOr, tdNot, tdB, tdOp, tdCB, tdCons, tdNil, tdC, tdAug, tdSl, tdP, tdRet, tdTup, tdIf, tdIfS, gOrd, gI0, gI, gLen, gIx, gAdd, gInt, vw, ixP, gSl, tdDrop, tdRetN, tdNext, gIn_sc, gIn_ts, gIn_ls, gIn_t2, gIn_l2, gIn_l4, tdApp, sl_0, sl_1, sl_2, sl_3, sl_4, sl_5, ff, tt', true_and, id,
  eqS, tdFor, tdiT, tdiL, tdiR, tdXp, gList, gEq_ns, tdJoin, gJoin, vwS, gMul, gMod, gDiv, gPow, gI, tdAugS, gdSub, gSet, ixN_2, ixN_3, atI_3, atI_4, gEq_ss, gEq_ii, tdDict, tdPairs, tdNeg, Option.isNone_none, Option.isNone_some, gIsi, tdGet, tdDPut, tdDAug, tdIsN, tdNotN, DO.dic.injEq, Option.isNone_none, Option.isNone_some, gIn_l2, gIn_t2, Option.getD_some, tdLc, gMax, tdNoP, forR, tdRaise, tdCall, tdNotV, tdAndV, tdOrV, tdBox, tdZ, gdTup, gdCons, gdNil, tdBreak, tdCont, tdYes, icast, icast1, icast2, icast3, tdLst, gIn_l4, icastL, icastE, icastZ, ln_0, ln_1, ln_2, ln_3,
  List.getElem?_cons_zero, List.getElem?_cons_succ, List.set_cons_zero, List.set_cons_succ, Option.some.injEq, exists_eq_left', exists_eq_left, D.bl.injEq, decide_eq_true_eq,
  tdFldC, tdMeth, tdMake, tdPutF, tdAugF, D.ref.injEq, DO.ins.injEq, and_assoc, lk_cursor, lp_given, lp_same, lp_either, lp_both, lp_turned, lp_part, lp_definition, icE12, icE200, icS1, DL.gSub, D.int.injEq, D.str.injEq, sup_same, curF_len, eq_self, not_true_eq_false, not_false_eq_true, Bool.false_eq_true, Bool.not_eq_true, decide_not, atIn, atI_0, atI_1, atI_2, List.getElem?_map, Option.map_some, Option.map_none, tokD, decide_true, decide_false, Bool.not_true, Bool.not_false, if_true, if_false, lm_0, lm_1, lm_2, List.length_map, exists_and_left, lk_tokens, lk_length, lk_at, lk_opened, lm_at_end, lm_position, lm_refuse, lm_sees, lm_sees_kind, lm_take, lm_take_kind, lm_accept, lm_expect, lm_seen_of, lm_enter, lm_close, pu_at, pu_opened, *])
local macro_rules | `(tactic| walk_at "rdc") => `(tactic| simp only [tdiZ, tdLcT, lcT, setD, unsetD, List.zipWith_cons_cons, List.zipWith_nil_left, List.zipWith_nil_right, tdKGet, tdKGet2, tdGet2, tdPop, tdSeq, tdAsg, tdV, gdName, tdAnd, tdOr, tdNot, tdB, tdOp, tdCB, tdCons, tdNil, tdC, tdAug, tdSl, tdP, tdRet, tdTup, tdIf, tdIfS, gOrd, gI0, gI, gLen, gIx, gAdd, gInt, vw, ixP, gSl, tdDrop, tdRetN, tdNext, gIn_sc, gIn_ts, gIn_ls, gIn_t2, gIn_l2, gIn_l4, tdApp, sl_0, sl_1, sl_2, sl_3, sl_4, sl_5, ff, tt', true_and, id,
  eqS, tdFor, tdiT, tdiL, tdiR, tdXp, gList, gEq_ns, tdJoin, gJoin, vwS, gMul, gMod, gDiv, gPow, gI, tdAugS, gdSub, gSet, ixN_2, ixN_3, atI_3, atI_4, gEq_ss, gEq_ii, tdDict, tdPairs, tdNeg, Option.isNone_none, Option.isNone_some, gIsi, tdGet, tdDPut, tdDAug, tdIsN, tdNotN, DO.dic.injEq, Option.isNone_none, Option.isNone_some, gIn_l2, gIn_t2, Option.getD_some, tdLc, gMax, tdNoP, forR, tdRaise, tdCall, tdNotV, tdAndV, tdOrV, tdBox, tdZ, gdTup, gdCons, gdNil, tdBreak, tdCont, tdYes, icast, icast1, icast2, icast3, tdLst, gIn_l4, icastL, icastE, icastZ, ln_0, ln_1, ln_2, ln_3,
  List.getElem?_cons_zero, List.getElem?_cons_succ, List.set_cons_zero, List.set_cons_succ, Option.some.injEq, exists_eq_left', exists_eq_left, D.bl.injEq, decide_eq_true_eq,
  tdFldC, tdMeth, tdMake, tdPutF, tdAugF, D.ref.injEq, DO.ins.injEq, and_assoc, lk_cursor, lp_given, lp_same, lp_either, lp_both, lp_turned, lp_part, lp_definition, icE12, icE200, icS1, DL.gSub, D.int.injEq, D.str.injEq, sup_same, curF_len, eq_self, not_true_eq_false, not_false_eq_true, Bool.false_eq_true, Bool.not_eq_true, decide_not, atIn, atI_0, atI_1, atI_2, List.getElem?_map, Option.map_some, Option.map_none, tokD, decide_true, decide_false, Bool.not_true, Bool.not_false, if_true, if_false, lm_0, lm_1, lm_2, List.length_map, exists_and_left, lk_tokens, lk_length, lk_at, lk_opened, lm_at_end, lm_position, lm_refuse, lm_sees, lm_sees_kind, lm_take, lm_take_kind, lm_accept, lm_expect, lm_seen_of, lm_enter, lm_close, pu_at, pu_opened, *])
variable {P : Program} {w : World} {K : PySem.W.Frag} {mg : Str → Option Value} {base : Heap}
def m_chunks : M := fun ds S Q E => ∃ t : Tx, ds = [.str t] ∧ OneL t ∧ Q (.lst [.tup [.int 0, .str t]]) S
theorem d_chunks (Z : Zf P w K mg base) : Ca P w K mg base 2 "chunks" ["text"] m_chunks := by
  obtain ⟨fd, F, hb⟩ := Z.F_chunks
  refine ⟨_, fd, df_of (k := 1) F sc_chunks (fun cdv A outer s H E F0 E' B => (dss_cons (ds_set 1 nd_chunks (de_ca (d_line_starts Z) (B.mono (by omega)) rfl (da_cons (dv 0) da_nil)))
    (dss_cons (ds_set 2 nd_chunks (de_op od_add (de_sl (dv 1) (do_some de_int) do_none) (de_lst (da_cons (de_cB oc_len rfl Z.f_len bb_len (da_cons (dv 0) da_nil)) da_nil))))
    (dss_one (ds_ret (de_lcT [3, 4] rfl rfl nd_chunks (di_zip rfl Z.f_zip (da_cons (dv 1) (da_cons (dv 2) da_nil))) (blkOk_by (own := [("start", 3), ("end", 4)]) (N := N_chunks) (sc := defScope st_chunks) (by decide +kernel)) (fun _ _ _ _ _ => pg_tup rfl (pgs_cons (pg_name (i := 3) nd_chunks rfl (Or.inl rfl)) (pgs_cons (pg_name (i := 4) nd_chunks rfl (Or.inl rfl)) pgs_nil))) (fun _ _ _ _ _ => dts_nil) (fun _ _ _ _ _ => (de_tup (da_cons (dv 3) (da_cons (de_sl (dv 0) (do_some (dv 3)) (do_some (dv 4))) da_nil)))))))))) ?_, Z.g_chunks, F.kp, hb⟩
  rintro ds S Q E hl ⟨t, rfl, ht, hq⟩
  rw [show startD N_chunks [.str t] = [some (.str t), none, none, none, none] from rfl]
  clear hl
  have fin : t.length ≤ sizeLine := sz5 (by have := ht.ln; omega)
  refine seq_cut (fun ρ S' => ρ = [some (.str t), some (.lst [.int 0]), none, none, none] ∧ S' = S) (fun Rest hR => ?_) ?_
  · walk_at "rdv"
    exact ⟨t, rfl, ht, hR _ _ ⟨rfl, rfl⟩⟩
  rintro ρ S' ⟨rfl, rfl⟩
  refine seq_cut (fun ρ S1 => ρ = [some (.str t), some (.lst [.int 0]), some (.lst [.int (t.length : Nat)]), none, none] ∧ S1 = S') (fun Rest hR => ?_) ?_
  · walk_at "rdv"
    rw [show cutL [D.int 0] (some 1) none = [] from cutL_n 1]
    exact ⟨sz5 (show 0 + 1 ≤ 1000000 by omega), hR _ _ ⟨rfl, rfl⟩⟩
  rintro ρ S1 ⟨rfl, rfl⟩
  walk_at "rdc"
  refine ⟨_, rfl, rfl, .int 0, rfl, .str t, rfl, .int 0, rfl, .int (t.length : Nat), rfl, fin, sz1, ?_⟩
  rw [show cutL t (some 0) (some ((t.length : Nat) : Int)) = t from (cutL_nn 0 t.length).trans (by rw [List.drop_zero, Nat.sub_zero, List.take_length])]
  exact fini hq
def Pl (t : Tx) : Prop := ∀ c ∈ t, c < 128 ∧ c ≠ 10
theorem Pl.app {a b : Tx} (h : Pl a) (g : Pl b) : Pl (a ++ b) := fun c hc => (List.mem_append.mp hc).elim (h c) (g c)
theorem pl_word : Pl wordT := by
  have : ∀ c ∈ wordT, c < 128 ∧ c ≠ 10 := by decide
  exact this
theorem pl_nm {x : Tx} (h : Nm x) : Pl x := fun c hc => pl_word c (h.wd c hc)
theorem pl_kw {x : Tx} (h : x ∈ kwT) : Pl x := by
  have : ∀ x ∈ kwT, ∀ c ∈ x, c < 128 ∧ c ≠ 10 := by decide
  exact this x h
theorem pl_sg {x : Tx} (h : x ∈ [tx "(", tx ")", tx "~", tx "=", tx "<->", tx "->", tx "|", tx "&"]) : Pl x := by
  have : ∀ x ∈ [tx "(", tx ")", tx "~", tx "=", tx "<->", tx "->", tx "|", tx "&"], ∀ c ∈ x, c < 128 ∧ c ≠ 10 := by decide
  exact this x h
theorem pl_space : Pl (tx " ") := by
  have : ∀ c ∈ tx " ", c < 128 ∧ c ≠ 10 := by decide
  exact this
theorem pl_par {b : Bool} {t : Tx} (h : Pl t) : Pl (par b t) := by
  unfold par
  split
  · exact ((pl_sg (by decide)).app h).app (pl_sg (by decide))
  · exact h
theorem pl_wr : ∀ c : Cl, Nms c → Pl (wr c)
  | .word x, h => pl_nm h
  | .non, _ => pl_kw (by decide)
  | .not a, h => (pl_sg (by decide)).app (pl_par (pl_wr a h))
  | .bin f a b, h => by
    refine ((pl_par (pl_wr a h.1)).app ?_).app (pl_par (pl_wr b h.2))
    rw [markS_eq]
    exact pl_space.app ((pl_sg (mark_in f)).app pl_space)
theorem pl_parK {b : Bool} {k : List KV} (h : ∀ x ∈ k, Pl x.2) : ∀ x ∈ parK b k, Pl x.2 := by
  unfold parK
  split
  · intro x hx
    rcases List.mem_cons.mp hx with z | z
    · rw [z]; exact pl_sg (by decide)
    · rcases List.mem_append.mp z with z | z
      · exact h x z
      · rw [List.mem_singleton.mp z]; exact pl_sg (by decide)
  · exact h
theorem pl_core : ∀ c : Cl, Nms c → ∀ x ∈ core c, Pl x.2
  | .word y, h, x, hx => by rw [List.mem_singleton.mp hx]; exact pl_nm h
  | .non, h, x, hx => by rw [List.mem_singleton.mp hx]; exact pl_kw (by decide)
  | .not a, h, x, hx => by
    rcases List.mem_cons.mp hx with z | z
    · rw [z]; exact pl_sg (by decide)
    · exact pl_parK (pl_core a h) x z
  | .bin f a b, h, x, hx => by
    rcases List.mem_append.mp hx with z | z
    · exact pl_parK (pl_core a h.1) x z
    · rcases List.mem_cons.mp z with z | z
      · rw [z]; exact pl_sg (mark_in f)
      · exact pl_parK (pl_core b h.2) x z
theorem pl_def {s n : Tx} {c : Cl} (hs : s ∈ kwT) (hn : Nm n) (hc : Nms c) : ∀ x ∈ defK s n c, Pl x.2 := fun x hx => by
  rcases List.mem_cons.mp hx with z | z
  · rw [z]; exact pl_kw hs
  · rcases List.mem_cons.mp z with z | z
    · rw [z]; exact pl_nm hn
    · rcases List.mem_cons.mp z with z | z
      · rw [z]; exact pl_sg (by decide)
      · exact pl_core c hc x z
theorem one_def {s n : Tx} {c : Cl} (hs : s ∈ kwT) (hn : Nm n) (hc : Nms c) (hl : (s ++ tx " " ++ n ++ tx " = " ++ wr c).length ≤ 99000) : OneL (s ++ tx " " ++ n ++ tx " = " ++ wr c) where
  hd := by
    have : ∃ c r, s = c :: r ∧ c ∈ lowT := by
      simp only [List.mem_cons, List.not_mem_nil, or_false] at hs
      rcases hs with rfl | rfl | rfl | rfl
      · exact ⟨110, [111, 116, 101], rfl, by decide⟩
      · exact ⟨97, [115, 107], rfl, by decide⟩
      · exact ⟨110, [97, 109, 101], rfl, by decide⟩
      · exact ⟨110, [111, 110, 101], rfl, by decide⟩
    obtain ⟨d, r, rfl, h⟩ := this
    exact ⟨d, _, rfl, h⟩
  nl := fun d hd => (((((pl_kw hs).app pl_space).app (pl_nm hn)).app (pl_space.app ((pl_sg (x := tx "=") (by decide)).app pl_space))).app (pl_wr c hc) d hd).2
  ln := hl
theorem pl_text {s n : Tx} {c : Cl} (hs : s ∈ kwT) (hn : Nm n) (hc : Nms c) : Pl (s ++ tx " " ++ n ++ tx " = " ++ wr c) :=
  (((((pl_kw hs).app pl_space).app (pl_nm hn)).app (pl_space.app ((pl_sg (x := tx "=") (by decide)).app pl_space))).app (pl_wr c hc))
theorem ok_str {t : Tx} (h : Pl t) : (PyData.str (tS t)).canLay0 = true := by
  show ((tS t).cps.all fun c => decide (c < 0x110000)) = true
  rw [Array.all_eq_true]
  intro i hi
  have := h _ (List.getElem_mem (l := t) (by simpa using hi))
  show decide _ = true
  refine decide_eq_true ?_
  have e : (tS t).cps[i] = t[i]'(by simpa using hi) := by simp [tS]
  rw [e]
  omega
theorem sh_strs : ∀ vs : List Tx, (∀ x ∈ vs, Pl x) → D.pures (vs.map D.str) = true ∧ PyData.canLayAll0 (D.datas (vs.map D.str)) = true ∧ PyData.depthAll (D.datas (vs.map D.str)) = 0 ∧ PyData.eqvAll (D.datas (vs.map D.str)) (D.datas (vs.map D.str)) = true
  | [], _ => ⟨rfl, rfl, rfl, rfl⟩
  | x :: vs, h => by
    obtain ⟨h1, h2, h3, h4⟩ := sh_strs vs fun y hy => h y (List.mem_cons_of_mem _ hy)
    have e : D.datas ((x :: vs).map D.str) = .str (tS x) :: D.datas (vs.map D.str) := rfl
    refine ⟨?_, ?_, ?_, ?_⟩
    · show (D.pure (.str x) && D.pures (vs.map D.str)) = true
      rw [h1]; rfl
    · rw [e]
      show ((PyData.str (tS x)).canLay0 && _) = true
      rw [h2, ok_str (h x List.mem_cons_self)]; rfl
    · rw [e]
      show max 0 _ = 0
      rw [h3]; rfl
    · rw [e]
      show (PyData.eqv (.str (tS x)) (.str (tS x)) && _) = true
      rw [h4]
      show (tS x == tS x && true) = true
      simp
theorem gNe_strs {S : Store} {vs : List Tx} {Q : D → Store → Prop} (h : ∀ x ∈ vs, Pl x) (q : Q (.bl false) S) : gEq not S (.lst (vs.map D.str)) (.lst (vs.map D.str)) Q := by
  obtain ⟨h1, h2, h3, h4⟩ := sh_strs vs h
  have hs : SeqAt.shaped (D.lst (vs.map D.str)).data = true := by
    unfold SeqAt.shaped
    show (PyData.canLayAll0 (D.datas (vs.map D.str)) && decide (PyData.depthAll (D.datas (vs.map D.str)) + 1 ≤ 64)) = true
    rw [h2, h3]
    rfl
  show (_ ∧ _ ∧ _ ∧ _ ∧ Q (.bl (!(PyData.eqvAll (D.datas (vs.map D.str)) (D.datas (vs.map D.str))))) S)
  rw [h4]
  exact ⟨h1, h1, hs, hs, q⟩
theorem gNe_chunk {S : Store} {t : Tx} {Q : D → Store → Prop} (h : Pl t) (q : Q (.bl false) S) : gEq not S (.lst [.tup [.int 0, .str t]]) (.lst [.tup [.int 0, .str t]]) Q := by
  have hs : SeqAt.shaped (D.lst [.tup [.int 0, .str t]]).data = true := by
    unfold SeqAt.shaped
    show (((true && ((PyData.str (tS t)).canLay0 && true)) && true) && _) = true
    rw [ok_str h]
    rfl
  show (_ ∧ _ ∧ _ ∧ _ ∧ Q (.bl (!((((0 : Int) == 0) && ((tS t == tS t) && true)) && true))) S)
  refine ⟨rfl, rfl, hs, hs, ?_⟩
  have e : (!((((0 : Int) == 0) && ((tS t == tS t) && true)) && true)) = false := by simp
  rw [e]
  exact q
end K63
namespace K63
open PySem PySem.Spec L2 DL
local macro_rules | `(tactic| walk_at "rdv") => `(tactic| simp only [tdKGet, tdKGet2, tdGet2, tdPop, tdSeq, tdAsg, tdV, gdName, tdAnd, tdOr, tdNot, tdB, tdOp, tdCB, tdCons, tdNil, tdC, tdAug, tdSl, tdP, tdRet, tdTup, tdIf, tdIfS, gOrd, gI0, gI, gLen, gIx, gAdd, gInt, vw, ixP, gSl, tdDrop, tdRetN, tdNext, gIn_sc, gIn_ts, gIn_ls, gIn_t2, gIn_l2, gIn_l4, tdApp, sl_0, sl_1, sl_2, sl_3, sl_4, sl_5, ff, tt', true_and, id,
  eqS, tdFor, tdiT, tdiL, tdiR, tdXp, gList, gEq_ns, tdJoin, gJoin, vwS, gMul, gMod, gDiv, gPow, gI, tdAugS, gdSub, gSet, ixN_2, ixN_3, atI_3, atI_4, gEq_ss, gEq_ii, tdDict, tdPairs, tdNeg, Option.isNone_none, Option.isNone_some, gIsi, tdGet, tdDPut, tdDAug, tdIsN, tdNotN, DO.dic.injEq, Option.isNone_none, Option.isNone_some, gIn_l2, gIn_t2, Option.getD_some, tdLc, gMax, tdNoP, forR, tdRaise, tdCall, tdNotV, tdAndV, tdOrV, tdBox, tdZ, gdTup, gdCons, gdNil, tdBreak, tdCont, tdYes, icast, icast1, icast2, icast3, tdLst, gIn_l4, icastL, icastE, icastZ, ln_0, ln_1, ln_2, ln_3,
  List.getElem?_cons_zero, List.getElem?_cons_succ, List.set_cons_zero, List.set_cons_succ, Option.some.injEq, exists_eq_left', exists_eq_left, D.bl.injEq, decide_eq_true_eq,
  tdFldC, tdMeth, tdMake, tdPutF, tdAugF, D.ref.injEq, DO.ins.injEq, and_assoc, lk_cursor, lp_given, lp_same, lp_either, lp_both, lp_turned, lp_part, lp_definition, icE12, icE200, icS1, DL.gSub, D.int.injEq, D.str.injEq, sup_same, curF_len, eq_self, not_true_eq_false, not_false_eq_true, Bool.false_eq_true, Bool.not_eq_true, decide_not, atIn, atI_0, atI_1, atI_2, List.getElem?_map, Option.map_some, Option.map_none, tokD, decide_true, decide_false, Bool.not_true, Bool.not_false, if_true, if_false, lm_0, lm_1, lm_2, List.length_map, exists_and_left, lk_tokens, lk_length, lk_at, lk_opened, lm_at_end, lm_position, lm_refuse, lm_sees, lm_sees_kind, lm_take, lm_take_kind, lm_accept, lm_expect, lm_seen_of, lm_enter, lm_close, pu_at, pu_opened, *])
variable {P : Program} {w : World} {K : PySem.W.Frag} {mg : Str → Option Value} {base : Heap}
abbrev wsT : List Tx := [tx "a", tx "b_1", tx "no", tx "x"]
theorem nm_by {x : Tx} (h : (∃ c r, x = c :: r ∧ c ∈ lowT) ∧ (∀ c ∈ x, c ∈ wordT) ∧ ¬ x ∈ kwT) : Nm x := ⟨h.1, h.2.1, h.2.2⟩
theorem ws_ok : WsOk wsT := ⟨by decide, by decide, fun x hx => by
  simp only [List.mem_cons, List.not_mem_nil, or_false] at hx
  rcases hx with rfl | rfl | rfl | rfl <;> decide, fun x hx => by
  simp only [List.mem_cons, List.not_mem_nil, or_false] at hx
  rcases hx with rfl | rfl | rfl | rfl
  · exact nm_by ⟨⟨97, [], rfl, by decide⟩, by decide, by decide⟩
  · exact nm_by ⟨⟨98, [95, 49], rfl, by decide⟩, by decide, by decide⟩
  · exact nm_by ⟨⟨110, [111], rfl, by decide⟩, by decide, by decide⟩
  · exact nm_by ⟨⟨120, [], rfl, by decide⟩, by decide, by decide⟩⟩
theorem StA.sub {a : Addr} {ns : List Int} {ws : List Tx} {S S' : Store} (h : StA a ns ws S) (hs : Sub S S') : StA a ns ws S' := by
  obtain ⟨p, big, seed, h1, h2⟩ := h
  exact ⟨p, big, seed, hs _ _ h1, h2⟩
/-- what is drawn for a turn -/
structure Drawn (s n : Tx) (c : Cl) : Prop where
  s1 : s ∈ sortT
  s2 : s ∈ kwT
  s3 : s.length ≤ 10
  n1 : Nm n
  n2 : n.length ≤ 10
  c1 : depth c ≤ 8
  c2 : lenB c ≤ 2048
  c3 : Nms c
abbrev treeD (s n : Tx) (c : Cl) : D := .tup [.str s, .str n, clD c]
abbrev textT (s n : Tx) (c : Cl) : Tx := s ++ tx " " ++ n ++ tx " = " ++ wr c
theorem text_len {s n : Tx} {c : Cl} (h : Drawn s n c) : (textT s n c).length ≤ 3000 := by
  have h1 := wr_len c
  have h2 := h.s3
  have h3 := h.n2
  have h4 := h.c2
  simp only [List.length_append]
  have e1 : (tx " ").length = 1 := rfl
  have e2 : (tx " = ").length = 3 := rfl
  omega
theorem nm3 {x : Tx} (h : x ∈ [tx "r", tx "x2", tx "notes"]) : Nm x := by
  simp only [List.mem_cons, List.not_mem_nil, or_false] at h
  rcases h with rfl | rfl | rfl
  · exact nm_by ⟨⟨114, [], rfl, by decide⟩, by decide, by decide⟩
  · exact nm_by ⟨⟨120, [50], rfl, by decide⟩, by decide, by decide⟩
  · exact nm_by ⟨⟨110, [111, 116, 101, 115], rfl, by decide⟩, by decide, by decide⟩
theorem join_le (b : Tx) : ∀ xs : List Tx, (joinT b xs).length ≤ (xs.map (·.length)).sum + xs.length * b.length
  | [] => Nat.zero_le _
  | [t] => by simp [joinT]
  | t :: u :: ts => by
    have h := join_le b (u :: ts)
    have e : joinT b (t :: u :: ts) = t ++ b ++ joinT b (u :: ts) := rfl
    rw [e, List.length_append, List.length_append, List.map_cons, List.sum_cons, List.length_cons, Nat.add_mul, Nat.one_mul]
    omega
theorem sum_parK {b : Bool} {k : List KV} : ((valsK (parK b k)).map (·.length)).sum ≤ ((valsK k).map (·.length)).sum + 2 := by
  unfold parK
  split
  · unfold valsK
    simp only [List.map_cons, List.map_append, List.map_nil, List.sum_cons, List.sum_append, List.sum_nil]
    show 1 + (_ + (1 + 0)) ≤ _
    omega
  · omega
theorem sum_core : ∀ c : Cl, ((valsK (core c)).map (·.length)).sum ≤ lenB c
  | .word x => by show x.length + 0 ≤ x.length + 4; omega
  | .non => by show 4 + 0 ≤ 8; omega
  | .not a => by
    have h := sum_core a
    have h2 := sum_parK (b := decide (lineC a < 5)) (k := core a)
    show 1 + ((valsK (parK _ (core a))).map (·.length)).sum ≤ lenB a + 5
    omega
  | .bin f a b => by
    have h1 := sum_core a
    have h2 := sum_parK (b := decide (lineC a < leftF f)) (k := core a)
    have h3 := sum_core b
    have h4 := sum_parK (b := decide (lineC b < rightF f)) (k := core b)
    have h5 : (markF f).length ≤ 3 := by cases f <;> decide
    have e : valsK (core (.bin f a b)) = valsK (parK (decide (lineC a < leftF f)) (core a)) ++ markF f :: valsK (parK (decide (lineC b < rightF f)) (core b)) := by
      show valsK (parK _ (core a) ++ sg (markF f) :: parK _ (core b)) = _
      unfold valsK
      rw [List.map_append, List.map_cons]
      rfl
    rw [e, List.map_append, List.map_cons, List.sum_append, List.sum_cons]
    show _ ≤ lenB a + lenB b + 7
    omega
theorem sum_def {s n : Tx} {c : Cl} (h : Drawn s n c) : ((valsK (defK s n c)).map (·.length)).sum ≤ 2100 := by
  have h1 := sum_core c
  have h2 := h.s3
  have h3 := h.n2
  have h4 := h.c2
  show s.length + (n.length + (1 + ((valsK (core c)).map (·.length)).sum)) ≤ 2100
  omega
theorem lcT_map {vs : List Nat} {te : TD} {ρ : Rho} {Q : List D → Store → Prop} (f : Tok → D) (h3 : vs.length = 3) : ∀ (L : List Tok) (acc : List D) (S : Store), (∀ k ∈ L, ∀ Q' : D → Store → Prop, Q' (f k) S → te (setD (unsetD ρ vs) vs [.str k.1, .str k.2.1, .int (k.2.2 : Nat)]) S Q') →
    acc.length + L.length ≤ 100000 → Q (acc ++ L.map f) S → lcT vs tdYes te ρ (L.map tokD) acc S Q
  | [], acc, S, _, _, q => by
    rw [List.map_nil, List.append_nil] at q
    exact q
  | k :: L, acc, S, ht, hl, q => by
    rw [List.length_cons] at hl
    refine ⟨_, rfl, h3.symm, ?_⟩
    show te _ S _
    refine ht k List.mem_cons_self _ ⟨Nat.lt_of_lt_of_le (show acc.length < 100001 by omega) (sz5 (by omega)), ?_⟩
    refine lcT_map f h3 L (acc ++ [f k]) S (fun k hk => ht k (List.mem_cons_of_mem _ hk)) (by rw [List.length_append]; show acc.length + 1 + L.length ≤ _; omega) ?_
    rw [List.append_assoc]
    exact q
theorem lcR_map {v : Nat} {te : TD} {ρ : Rho} {Q : List D → Store → Prop} (f : Tok → D) : ∀ (L : List Tok) (acc : List D) (S : Store), (∀ k ∈ L, ∀ Q' : D → Store → Prop, Q' (f k) S → te (ρ.set v (some (tokD k))) S Q') →
    acc.length + L.length ≤ 100000 → Q (acc ++ L.map f) S → lcR v tdYes te ρ (L.map tokD) acc S Q
  | [], acc, S, _, _, q => by
    rw [List.map_nil, List.append_nil] at q
    exact q
  | k :: L, acc, S, ht, hl, q => by
    rw [List.length_cons] at hl
    show te _ S _
    refine ht k List.mem_cons_self _ ⟨Nat.lt_of_lt_of_le (show acc.length < 100001 by omega) (sz5 (by omega)), ?_⟩
    refine lcR_map f L (acc ++ [f k]) S (fun k hk => ht k (List.mem_cons_of_mem _ hk)) (by rw [List.length_append]; show acc.length + 1 + L.length ≤ _; omega) ?_
    rw [List.append_assoc]
    exact q
abbrev kvD (x : KV) : D := .tup [.str x.1, .str x.2]
theorem ok_tree {s n : Tx} {c : Cl} (h : depth c ≤ 12) : okD 15 (treeD s n c) := ⟨show 3 ≤ 100000 by omega, fun y hy => by
  simp only [List.mem_cons, List.not_mem_nil, or_false] at hy
  rcases hy with rfl | rfl | rfl
  · exact True.intro
  · exact True.intro
  · exact ok_cl c 14 (by omega)⟩
theorem ok_kvs {k : List KV} (h : k.length ≤ 100000) : okD 15 (.lst (k.map kvD)) := ⟨by rw [List.length_map]; exact h, fun y hy => by
  obtain ⟨x, _, rfl⟩ := List.mem_map.mp hy
  refine ⟨show 2 ≤ 100000 by omega, fun z hz => ?_⟩
  simp only [List.mem_cons, List.not_mem_nil, or_false] at hz
  rcases hz with rfl | rfl <;> exact True.intro⟩
theorem same_go {n : Nat} {d : D} {S : Store} {Q : D → Store → Prop} {E : XD} (h : okD n d) (q : Q (.bl true) S) : m_same n [d, d] S Q E := ⟨d, d, rfl, .inr h, h, fun b hb => by
  have : b = true := hb.mpr rfl
  subst this
  exact q⟩
theorem ft_inj : ∀ f g : Fm, f.t = g.t → f = g := by
  intro f g h
  cases f <;> cases g <;> first
    | rfl
    | exact absurd h (by decide)
theorem head_eq {a b : Cl} (h : clD a = clD b) : headT a = headT b := by
  rw [clD_head, clD_head] at h
  injection h with h
  injection h with h _
  injection h
theorem clD_inj : ∀ a b : Cl, clD a = clD b → a = b
  | .word x, .word y, h => by
    have h2 : D.tup [.str (tx "word"), .str x] = .tup [.str (tx "word"), .str y] := h
    injection h2 with h2
    injection h2 with _ h2
    injection h2 with h2 _
    injection h2 with h2
    rw [h2]
  | .non, .non, _ => rfl
  | .not a, .not b, h => by
    have h2 : D.tup [.str (tx "not"), clD a] = .tup [.str (tx "not"), clD b] := h
    injection h2 with h2
    injection h2 with _ h2
    injection h2 with h2 _
    rw [clD_inj a b h2]
  | .bin f a b, .bin g c d, h => by
    have h2 : D.tup [.str f.t, clD a, clD b] = .tup [.str g.t, clD c, clD d] := h
    injection h2 with h2
    injection h2 with h1 h2
    injection h2 with h2 h3
    injection h3 with h3 _
    injection h1 with h1
    rw [ft_inj f g h1, clD_inj a c h2, clD_inj b d h3]
  | .word x, .non, h => absurd (head_eq h) (show ¬ tx "word" = tx "none" by decide)
  | .word x, .not b, h => absurd (head_eq h) (show ¬ tx "word" = tx "not" by decide)
  | .word x, .bin f a b, h => absurd (head_eq h) (show ¬ tx "word" = f.t by cases f <;> decide)
  | .non, .word y, h => absurd (head_eq h) (show ¬ tx "none" = tx "word" by decide)
  | .non, .not b, h => absurd (head_eq h) (show ¬ tx "none" = tx "not" by decide)
  | .non, .bin f a b, h => absurd (head_eq h) (show ¬ tx "none" = f.t by cases f <;> decide)
  | .not a, .word y, h => absurd (head_eq h) (show ¬ tx "not" = tx "word" by decide)
  | .not a, .non, h => absurd (head_eq h) (show ¬ tx "not" = tx "none" by decide)
  | .not x, .bin f a b, h => absurd (head_eq h) (show ¬ tx "not" = f.t by cases f <;> decide)
  | .bin f a b, .word y, h => absurd (head_eq h) (show ¬ f.t = tx "word" by cases f <;> decide)
  | .bin f a b, .non, h => absurd (head_eq h) (show ¬ f.t = tx "none" by cases f <;> decide)
  | .bin f a b, .not x, h => absurd (head_eq h) (show ¬ f.t = tx "not" by cases f <;> decide)
theorem rdD_ok (t : Tx) : rdD t = .non ∨ okD 15 (rdD t) := by
  unfold rdD
  cases h : readC t with
  | error i => exact .inl rfl
  | ok x =>
    obtain ⟨s, n, c⟩ := x
    refine .inr (ok_tree ?_)
    unfold readC at h
    cases hk : toks t with
    | error i => rw [hk] at h; cases h
    | ok l =>
      rw [hk] at h
      exact readP_depth h
theorem rdD_ne {t s n : Tx} {c : Cl} {k : List KV} (hl : Lx t k) (hk : pc k + 1 ≤ pc (core c)) : rdD t ≠ treeD s n c := by
  intro h
  unfold rdD at h
  cases hr : readC t with
  | error i =>
    rw [hr] at h
    cases h
  | ok x =>
    obtain ⟨s', n', c'⟩ := x
    rw [hr] at h
    have h2 : D.tup [.str s', .str n', clD c'] = .tup [.str s, .str n, clD c] := h
    injection h2 with h2
    injection h2 with _ h2
    injection h2 with _ h2
    injection h2 with h2 _
    have := clD_inj _ _ h2
    subst this
    exact no_fewer hl hk hr
theorem cut_tok (k : Tok) {S : Store} {ρ : Rho} {v : Nat} {Q : D → Store → Prop} (hv : v < ρ.length) (q : Q (kvD (kv k)) S) : tdSl (tdV v) tdNoP (tdP (tdC (.int 2))) (ρ.set v (some (tokD k))) S Q := by
  refine ⟨tokD k, by rw [List.getElem?_set_self hv], ?_⟩
  show ¬ (HT.sIx 3 0 none = 0 ∧ HT.sIx 3 3 (some 2) = 3) ∧ Q (.tup (cutL [.str k.1, .str k.2.1, .int (k.2.2 : Nat)] none (some 2))) S
  rw [show cutL [D.str k.1, .str k.2.1, .int (k.2.2 : Nat)] none (some 2) = [.str k.1, .str k.2.1] from cutL_to 2]
  exact ⟨by decide, q⟩
theorem kvs_map {L : List Tok} {k : List KV} (h : L.map kv = k) : (L.map fun x => kvD (kv x)) = k.map kvD := by rw [← h, List.map_map]; rfl
def m_law : M := fun ds S Q E => ∃ ns, ds = [.scr ns] ∧ ∀ S', Q (.bl true) S'
theorem d_law (Z : Zf P w K mg base) {fd : FuncData} (F : Fun K "law" "law" st_law (He.ga K "law") fd) : DF P w K mg base 278 (He.ga K "law") fd ["script"] m_law := by
  refine df_of (k := 277) F sc_law (fun cdv A outer s H E F0 E' B => (dss_cons (ds_set 1 nd_law (de_box (da_cons (de_cT oc_list rfl Z.f_list bb_list (da_cons (dv 0) da_nil)) (da_cons de_int (da_cons de_int (da_cons de_int (da_cons (de_lst (da_cons de_str (da_cons de_str (da_cons de_str (da_cons de_str da_nil))))) da_nil)))))))
    (dss_cons (ds_for (passes_of rfl) rfl (di_rng rfl Z.f_range (da_cons de_int da_nil)) (dg_name 2 nd_law) (dss_cons (ds_set 3 nd_law (de_tup (da_cons (de_ix (de_lst (da_cons de_str (da_cons de_str (da_cons de_str da_nil)))) (de_ca (d__law_next Z) (B.mono (by omega)) rfl (da_cons (dv 1) (da_cons de_int da_nil)))) (da_cons (de_ix (de_lst (da_cons de_str (da_cons de_str (da_cons de_str da_nil)))) (de_ca (d__law_next Z) (B.mono (by omega)) rfl (da_cons (dv 1) (da_cons de_int da_nil)))) (da_cons (de_ca (trees Z 8) (B.mono (by omega)) rfl (da_cons (dv 1) (da_cons (de_ca (d__law_next Z) (B.mono (by omega)) rfl (da_cons (dv 1) (da_cons de_int da_nil))) da_nil))) da_nil)))))
    (dss_cons (ds_set 4 nd_law (de_ca (d_write_definition Z) (B.mono (by omega)) rfl (da_cons (dv 3) da_nil)))
    (dss_cons (ds_set 5 nd_law (de_ca (d_tokenize Z) (B.mono (by omega)) rfl (da_cons (dv 4) da_nil)))
    (dss_cons (ds_set 6 nd_law (de_ca (ltoks Z 9) (B.mono (by omega)) rfl (da_cons (de_ix (dv 3) de_int) (da_cons de_int da_nil))))
    (dss_cons (ds_if (PW.pt (dw_or (dt_cmp (od_ord op_gt) (de_cB oc_len rfl Z.f_len bb_len (da_cons (dv 6) da_nil)) de_int rfl) (dw_or1 (dt_cmp (od_ord op_gt) (de_ca (d__law_most_open Z) (B.mono (by omega)) rfl (da_cons (dv 6) da_nil)) de_int rfl)))) (dss_one ds_cont) dss_nil)
    (dss_cons (ds_if (PW.pt (dw_or (dt_cmp (od_ne B.units) (de_lcT [7, 8, 9] rfl rfl nd_law (di_lst (dv 5)) (blkOk_by (own := [("kind", 7), ("value", 8), ("position", 9)]) (N := N_law) (sc := defScope st_law) (by decide +kernel)) (fun _ _ _ _ _ => pg_tup rfl (pgs_cons (pg_name (i := 7) nd_law rfl (Or.inl rfl)) (pgs_cons (pg_name (i := 8) nd_law rfl (Or.inl rfl)) (pgs_cons (pg_name (i := 9) nd_law rfl (Or.inl rfl)) pgs_nil)))) (fun _ _ _ _ _ => dts_nil) (fun _ _ _ _ _ => (dv 8))) (de_op od_add (de_lst (da_cons (de_ix (dv 3) de_int) (da_cons (de_ix (dv 3) de_int) (da_cons de_str da_nil)))) (dv 6)) rfl) (dw_or1 (dt_cmp (od_ne B.units) (de_ca (d_chunks Z) (B.mono (by omega)) rfl (da_cons (dv 4) da_nil)) (de_lst (da_cons (de_tup (da_cons de_int (da_cons (dv 4) da_nil))) da_nil)) rfl)))) (dss_one (ds_ret de_bl)) dss_nil)
    (dss_cons (ds_if (PW.pt (dw_or (dt_not (dt_val (de_ca (lsames Z 15) (B.mono (by omega)) rfl (da_cons (de_ca (d__law_read Z) (B.mono (by omega)) rfl (da_cons (dv 4) da_nil)) (da_cons (dv 3) da_nil))))) (dw_or1 (dt_not (dt_val (de_ca (lsames Z 15) (B.mono (by omega)) rfl (da_cons (de_ca (d__law_read Z) (B.mono (by omega)) rfl (da_cons (de_ca (d__law_joined Z) (B.mono (by omega)) rfl (da_cons (dv 5) (da_cons (de_lst da_nil) (da_cons de_str da_nil)))) da_nil)) (da_cons (dv 3) da_nil)))))))) (dss_one (ds_ret de_bl)) dss_nil)
    (dss_cons (ds_set 10 nd_law (de_op od_add (de_lst (da_cons (de_tup (da_cons de_str (da_cons (de_ix (dv 3) de_int) da_nil))) (da_cons (de_tup (da_cons de_str (da_cons (de_ix (dv 3) de_int) da_nil))) (da_cons (de_tup (da_cons de_str (da_cons de_str da_nil))) da_nil)))) (de_lc rfl nd_law (di_lst (de_ca (d_tokenize Z) (B.mono (by omega)) rfl (da_cons (de_ca (writes Z 9) (B.mono (by omega)) rfl (da_cons (de_ix (dv 3) de_int) da_nil)) da_nil))) (blkOk_by (own := [("token", 11)]) (N := N_law) (sc := defScope st_law) (by decide +kernel)) (fun _ _ _ _ _ => pg_name (i := 11) nd_law rfl (Or.inl rfl)) (fun _ _ _ _ _ => dts_nil) (fun _ _ _ _ _ => (de_sl (dv 11) do_none (do_some de_int))))))
    (dss_cons (ds_if (dt_not (dt_val (de_ca (lsames Z 15) (B.mono (by omega)) rfl (da_cons (de_lc rfl nd_law (di_lst (dv 5)) (blkOk_by (own := [("token", 11)]) (N := N_law) (sc := defScope st_law) (by decide +kernel)) (fun _ _ _ _ _ => pg_name (i := 11) nd_law rfl (Or.inl rfl)) (fun _ _ _ _ _ => dts_nil) (fun _ _ _ _ _ => (de_sl (dv 11) do_none (do_some de_int)))) (da_cons (dv 10) da_nil))))) (dss_one (ds_ret de_bl)) dss_nil)
    (dss_one (ds_for (passes_of rfl) rfl (di_lst (de_ca (d__law_pairs Z) (B.mono (by omega)) rfl (da_cons (dv 5) da_nil))) (dg_tup (n := 2) rfl (dgs_cons (dg_name 12 nd_law) (dgs_cons (dg_name 13 nd_law) dgs_nil))) (dss_one (ds_if (dt_val (de_ca (lsames Z 15) (B.mono (by omega)) rfl (da_cons (de_ca (d__law_read Z) (B.mono (by omega)) rfl (da_cons (de_ca (d__law_joined Z) (B.mono (by omega)) rfl (da_cons (dv 5) (da_cons (de_lst (da_cons (dv 12) (da_cons (dv 13) da_nil))) (da_cons de_str da_nil)))) da_nil)) (da_cons (dv 3) da_nil)))) (dss_one (ds_ret de_bl)) dss_nil))))))))))))))
    (dss_one (ds_ret de_bl))))) ?_
  rintro ds S Q E hl ⟨ns, rfl, hq⟩
  rw [show startD N_law [.scr ns] = [some (.scr ns), none, none, none, none, none, none, none, none, none, none, none, none, none] from rfl]
  clear hl
  refine seq_cut (fun ρ S' => ∃ a, ρ = [some (.scr ns), some (.ref a), none, none, none, none, none, none, none, none, none, none, none, none] ∧ StA a ns wsT S') (fun Rest hR => ?_) ?_
  · walk_at "rdv"
    exact fun p hp => hR _ _ ⟨p, rfl, 0, 0, 1, sup_same, ⟨by omega, by omega, by omega⟩⟩
  rintro ρ S1 ⟨a, rfl, hst⟩
  refine seq_cut (fun ρ S' => True) (fun Rest hR => ?_) ?_
  · walk_at "rdv"
    refine ⟨by decide, by decide, for_ind (fun ds ρ S' => ∃ z2 z3 z4 z5 z6 z7 z8 z9 z10 z11 z12 z13, ρ = [some (.scr ns), some (.ref a), z2, z3, z4, z5, z6, z7, z8, z9, z10, z11, z12, z13] ∧ StA a ns wsT S') (fun ρ S' _ => hR ρ S' True.intro) ?_ _ _ _ ⟨none, none, none, none, none, none, none, none, none, none, none, none, rfl, hst⟩⟩
    clear hst hR
    rintro d ds ρ S' W hW ⟨z2, z3, z4, z5, z6, z7, z8, z9, z10, z11, z12, z13, rfl, hst⟩
    show tdSeq _ _ _ _ _
    refine seq_cut (fun ρ S2 => ∃ s n c, Drawn s n c ∧ ρ = [some (.scr ns), some (.ref a), some d, some (treeD s n c), z4, z5, z6, z7, z8, z9, z10, z11, z12, z13] ∧ StA a ns wsT S2) (fun Rest hR => ?_) ?_
    · clear hW
      walk_at "rdv"
      refine next_go (lim := 3) hst (by decide) (by decide) fun r S3 hr m1 => ?_
      obtain ⟨s, hs, s1, s2, s3⟩ : ∃ s : Tx, atI [D.str (tx "note"), D.str (tx "ask"), D.str (tx "name")] ((r : Nat) : Int) = some (.str s) ∧ s ∈ sortT ∧ s ∈ kwT ∧ s.length ≤ 10 := by
        obtain rfl | rfl | rfl : r = 0 ∨ r = 1 ∨ r = 2 := by omega
        · exact ⟨_, rfl, by decide, by decide, by decide⟩
        · exact ⟨_, rfl, by decide, by decide, by decide⟩
        · exact ⟨_, rfl, by decide, by decide, by decide⟩
      refine ⟨.str s, hs, next_go (lim := 3) m1.st (by decide) (by decide) fun r2 S4 hr2 m2 => ?_⟩
      obtain ⟨n, hn, n1, n2⟩ : ∃ n : Tx, atI [D.str (tx "r"), D.str (tx "x2"), D.str (tx "notes")] ((r2 : Nat) : Int) = some (.str n) ∧ n ∈ [tx "r", tx "x2", tx "notes"] ∧ n.length ≤ 10 := by
        obtain rfl | rfl | rfl : r2 = 0 ∨ r2 = 1 ∨ r2 = 2 := by omega
        · exact ⟨_, rfl, by decide, by decide⟩
        · exact ⟨_, rfl, by decide, by decide⟩
        · exact ⟨_, rfl, by decide, by decide⟩
      refine ⟨.str n, hn, next_go (lim := 8) m2.st (by decide) (by decide) fun r3 S5 hr3 m3 => ?_⟩
      have h4 : 2 ^ r3 ≤ 2 ^ 7 := Nat.pow_le_pow_right (by omega) (by omega)
      refine ⟨a, ns, wsT, r3, rfl, by omega, by omega, m3.st, ws_ok, fun c S6 k1 k2 k3 k4 => ?_⟩
      exact hR _ _ ⟨s, n, c, ⟨s1, s2, s3, nm3 n1, n2, by omega, by omega, k3⟩, rfl, k4.st⟩
    clear hst
    rintro ρ S2 ⟨s, n, c, hd, rfl, hst⟩
    have hlen := text_len hd
    refine seq_cut (fun ρ S3 => ρ = [some (.scr ns), some (.ref a), some d, some (treeD s n c), some (.str (textT s n c)), z5, z6, z7, z8, z9, z10, z11, z12, z13] ∧ S3 = S2) (fun Rest hR => ?_) ?_
    · clear hW
      walk_at "rdv"
      exact ⟨s, n, c, rfl, hd.s3, hd.n2, by have := hd.c1; omega, by have := hd.c2; omega, hR _ _ ⟨rfl, rfl⟩⟩
    rintro ρ S3 ⟨rfl, rfl⟩
    have lx := lx_def hd.s2 hd.n1 hd.c3
    obtain ⟨L, t1, t2⟩ := lx.toks
    refine seq_cut (fun ρ S4 => ρ = [some (.scr ns), some (.ref a), some d, some (treeD s n c), some (.str (textT s n c)), some (.lst (L.map tokD)), z6, z7, z8, z9, z10, z11, z12, z13] ∧ S4 = S3) (fun Rest hR => ?_) ?_
    · clear hW
      walk_at "rdv"
      refine ⟨textT s n c, rfl, by omega, ?_⟩
      rw [t1]
      exact hR _ _ ⟨rfl, rfl⟩
    rintro ρ S4 ⟨rfl, rfl⟩
    refine seq_cut (fun ρ S5 => ρ = [some (.scr ns), some (.ref a), some d, some (treeD s n c), some (.str (textT s n c)), some (.lst (L.map tokD)), some (stsD (valsK (core c))), z7, z8, z9, z10, z11, z12, z13] ∧ S5 = S4) (fun Rest hR => ?_) ?_
    · clear hW
      walk_at "rdv"
      refine ⟨c, 1, rfl, by have := hd.c1; omega, by have := hd.c2; omega, by omega, ?_⟩
      rw [core_1]
      exact hR _ _ ⟨rfl, rfl⟩
    rintro ρ S5 ⟨rfl, rfl⟩
    refine seq_cut (fun ρ S6 => (core c).length ≤ 197 ∧ moc c ≤ 12 ∧ StA a ns wsT S6 ∧ ρ = [some (.scr ns), some (.ref a), some d, some (treeD s n c), some (.str (textT s n c)), some (.lst (L.map tokD)), some (stsD (valsK (core c))), z7, z8, z9, z10, z11, z12, z13]) (fun Rest hR => ?_) ?_
    · walk_at "rdv"
      have hlv : (valsK (core c)).length = (core c).length := List.length_map _
      rw [hlv]
      have out : ∀ S6, Sub S5 S6 → W [some (.scr ns), some (.ref a), some d, some (treeD s n c), some (.str (textT s n c)), some (.lst (L.map tokD)), some (stsD (valsK (core c))), z7, z8, z9, z10, z11, z12, z13] S6 :=
        fun S6 hs6 => hW _ _ ⟨_, _, _, _, _, _, _, _, _, _, _, _, rfl, hst.sub hs6⟩
      by_cases h197 : (197 : Int) < ((core c).length : Nat)
      · rw [if_pos h197]
        exact out S5 (Sub.refl S5)
      · rw [if_neg h197]
        have hlt := tkk_len c 1
        rw [core_1] at hlt
        refine ⟨valsK (core c), rfl, by rw [hlv]; have := hd.c2; omega, fun S6 hs6 => ?_⟩
        rw [run_all hd.c3]
        show if (12 : Int) < ((moc c : Nat) : Int) then _ else _
        by_cases h12 : (12 : Int) < ((moc c : Nat) : Int)
        · rw [if_pos h12]
          exact out S6 hs6
        · rw [if_neg h12]
          exact hR _ _ ⟨by omega, by omega, hst.sub hs6, rfl⟩
    clear hst
    rintro ρ S6 ⟨h197, h12, hst, rfl⟩
    have hv : vals L = valsK (defK s n c) := by
      unfold vals valsK
      rw [← t2, List.map_map]
      rfl
    have hLl : L.length = (core c).length + 3 := by
      have := congrArg List.length t2
      rw [List.length_map] at this
      rw [this]
      rfl
    refine seq_cut (fun ρ S7 => S7 = S6 ∧ ρ = [some (.scr ns), some (.ref a), some d, some (treeD s n c), some (.str (textT s n c)), some (.lst (L.map tokD)), some (stsD (valsK (core c))), z7, z8, z9, z10, z11, z12, z13]) (fun Rest hR => ?_) ?_
    · walk_at "rdv"
      refine ⟨.lst (L.map tokD), rfl, ?_⟩
      refine lcT_map (fun k => .str k.2.1) rfl L [] S6 (fun k _ Q' q => ⟨.str k.2.1, rfl, q⟩) (show 0 + L.length ≤ _ by omega) ?_
      refine ⟨?_, ?_⟩
      · show 3 + (valsK (core c)).length ≤ sizeLine
        rw [show (valsK (core c)).length = (core c).length from List.length_map _]
        exact sz5 (by omega)
      have e1 : (D.lst ([] ++ L.map fun k => .str k.2.1)) = .lst ((valsK (defK s n c)).map D.str) := by
        rw [← hv, List.nil_append]
        unfold vals
        rw [List.map_map]
        rfl
      rw [e1]
      refine gNe_strs (vs := valsK (defK s n c)) (fun x hx => ?_) ⟨false, rfl, ?_⟩
      · obtain ⟨y, hy, rfl⟩ := List.mem_map.mp hx
        exact pl_def hd.s2 hd.n1 hd.c3 y hy
      rw [if_neg (by decide)]
      refine ⟨textT s n c, rfl, one_def hd.s2 hd.n1 hd.c3 (show (textT s n c).length ≤ 99000 by omega), gNe_chunk (pl_text hd.s2 hd.n1 hd.c3) ⟨false, rfl, ?_⟩⟩
      rw [if_neg (by decide)]
      exact hR _ _ ⟨rfl, rfl⟩
    rintro ρ S7 ⟨rfl, rfl⟩
    have hd12 : depth c ≤ 12 := by have := hd.c1; omega
    have hread : ∀ t : Tx, Lx t (defK s n c) → rdD t = treeD s n c := fun t ht => by
      unfold rdD
      rw [read_def hd.s1 ht h197 h12 hd12]
      rfl
    have hsum : ((vals L).map (·.length)).sum ≤ 5000 := by
      rw [hv]
      have := sum_def hd
      omega
    refine seq_cut (fun ρ S8 => StA a ns wsT S8 ∧ ρ = [some (.scr ns), some (.ref a), some d, some (treeD s n c), some (.str (textT s n c)), some (.lst (L.map tokD)), some (stsD (valsK (core c))), z7, z8, z9, z10, z11, z12, z13]) (fun Rest hR => ?_) ?_
    · walk_at "rdv"
      refine ⟨textT s n c, rfl, by omega, fun S8 hs8 => ?_⟩
      rw [hread _ lx]
      refine same_go (ok_tree hd12) ⟨true, rfl, ?_⟩
      rw [if_neg (by decide)]
      refine ⟨L, [], tx " \n ", rfl, by omega, hsum, by decide, ?_⟩
      rw [keep_nil]
      have hj := join_le (tx " \n ") (vals L)
      have hj2 : (vals L).length = L.length := List.length_map _
      refine ⟨_, rfl, ?_, fun S9 hs9 => ?_⟩
      · rw [hj2, show (tx " \n ").length = 3 from rfl] at hj
        omega
      rw [hread _ (by
        rw [hv]
        exact lx_join (by decide) (fun c hc => by
          have : some 32 = some c := hc
          cases this
          decide) (by decide) _ (good_def hd.s2 hd.n1 hd.c3))]
      refine same_go (ok_tree hd12) ⟨true, rfl, ?_⟩
      rw [if_neg (by decide)]
      exact hR _ _ ⟨(hst.sub hs8).sub hs9, rfl⟩
    clear hst
    rintro ρ S8 ⟨hst, rfl⟩
    have lw : Lx (wr c) (core c) := by
      have h0 := lx_wr c hd.c3 [] [] sep_nil .nil
      rw [List.append_nil, List.append_nil] at h0
      exact h0
    obtain ⟨L2, u1, u2⟩ := lw.toks
    have hwl := wr_len c
    refine seq_cut (fun ρ S9 => S9 = S8 ∧ ρ = [some (.scr ns), some (.ref a), some d, some (treeD s n c), some (.str (textT s n c)), some (.lst (L.map tokD)), some (stsD (valsK (core c))), z7, z8, z9, some (.lst ((defK s n c).map kvD)), z11, z12, z13]) (fun Rest hR => ?_) ?_
    · walk_at "rdv"
      refine ⟨c, rfl, by have := hd.c1; omega, by have := hd.c2; omega, wr c, rfl, by have := hd.c2; omega, ?_⟩
      rw [u1]
      have hL2 : L2.length = (core c).length := by rw [← u2, List.length_map]
      refine lcR_map (fun k => kvD (kv k)) L2 [] S8 (fun k _ Q' q => cut_tok k (show 11 < 14 by decide) q) (show 0 + L2.length ≤ _ by omega) ?_
      rw [List.nil_append, kvs_map u2]
      refine ⟨?_, hR _ _ ⟨rfl, rfl⟩⟩
      show 3 + ((core c).map kvD).length ≤ sizeLine
      rw [List.length_map]
      exact sz5 (by omega)
    rintro ρ S9 ⟨rfl, rfl⟩
    refine seq_cut (fun ρ S10 => S10 = S9 ∧ ρ = [some (.scr ns), some (.ref a), some d, some (treeD s n c), some (.str (textT s n c)), some (.lst (L.map tokD)), some (stsD (valsK (core c))), z7, z8, z9, some (.lst ((defK s n c).map kvD)), z11, z12, z13]) (fun Rest hR => ?_) ?_
    · walk_at "rdv"
      refine lcR_map (fun k => kvD (kv k)) L [] S9 (fun k _ Q' q => cut_tok k (show 11 < 14 by decide) q) (show 0 + L.length ≤ _ by omega) ?_
      rw [List.nil_append, kvs_map t2]
      refine same_go (ok_kvs (by show (core c).length + 1 + 1 + 1 ≤ _; omega)) ⟨true, rfl, ?_⟩
      rw [if_neg (by decide)]
      exact hR _ _ ⟨rfl, rfl⟩
    rintro ρ S10 ⟨rfl, rfl⟩
    walk_at "rdv"
    refine ⟨L, rfl, by omega, by rw [t2]; exact bal_def hd.s2 hd.n1 hd.c3, fun ps S11 hps hs11 => ?_⟩
    refine for_ind (fun ds ρ S' => ∃ (qs : List (Nat × Nat)) (x12 x13 : Option D), ds = qs.map pairD ∧ (∀ p ∈ qs, PairOk L p) ∧ StA a ns wsT S' ∧
      ρ = [some (.scr ns), some (.ref a), some d, some (treeD s n c), some (.str (textT s n c)), some (.lst (L.map tokD)), some (stsD (valsK (core c))), z7, z8, z9, some (.lst ((defK s n c).map kvD)), z11, x12, x13]) ?_ ?_ _ _ _ ⟨ps, z12, z13, rfl, hps, hst.sub hs11, rfl⟩
    · rintro ρ S12 ⟨qs, x12, x13, e1, e2, hst, rfl⟩
      exact hW _ _ ⟨_, _, _, _, _, _, _, _, _, _, _, _, rfl, hst⟩
    · clear hW hst
      rintro d2 ds2 ρ S12 W2 hW ⟨qs, x12, x13, e1, e2, hst, rfl⟩
      cases qs with
      | nil => cases e1
      | cons p qs =>
        injection e1 with e1 e3
        subst e1 e3
        obtain ⟨q, q1, q2⟩ := e2 p List.mem_cons_self
        unfold pairD
        walk_at "rdv"
        refine ⟨_, rfl, rfl, _, _, rfl, _, _, rfl, rfl, L, [p.1, p.2], tx " ", rfl, by omega, hsum, by decide, ?_⟩
        have hkl := keep_sum [p.1, p.2] 0 (vals L)
        have hkn := keep_len (ws := [p.1, p.2]) (k := 0) (s := vals L)
        have hvl : (vals L).length = L.length := List.length_map _
        have hj := join_le (tx " ") (keep [p.1, p.2] 0 (vals L))
        rw [show (tx " ").length = 1 from rfl] at hj
        have hpc : pc (keep [p.1, p.2] 0 (defK s n c)) + 1 ≤ pc (core c) := by
          rw [← pc_def (c := c) hd.s2 hd.n1]
          refine pc_drop (i := p.1) (y := kv q) List.mem_cons_self q2 (Nat.zero_le _) ?_
          rw [← t2, Nat.sub_zero, List.getElem?_map, q1]
          rfl
        have hlx : Lx (joinT (tx " ") (keep [p.1, p.2] 0 (vals L))) (keep [p.1, p.2] 0 (defK s n c)) := by
          rw [hv]
          unfold valsK
          rw [keep_map]
          exact lx_join (by decide) (fun c hc => by
            have : some 32 = some c := hc
            cases this
            decide) (by decide) _ fun x hx => good_def hd.s2 hd.n1 hd.c3 x (keep_mem hx)
        refine ⟨_, rfl, by omega, fun S13 hs13 => ?_⟩
        refine ⟨rdD (joinT (tx " ") (keep [p.1, p.2] 0 (vals L))), treeD s n c, rfl, rdD_ok _, ok_tree hd12, fun b hb => ⟨b, rfl, ?_⟩⟩
        rw [if_neg (fun z => rdD_ne hlx hpc (hb.mp z))]
        exact hW _ _ ⟨qs, _, _, rfl, fun p2 hp2 => e2 p2 (List.mem_cons_of_mem _ hp2), hst.sub hs13, rfl⟩
  rintro ρ S' _
  exact fini (hq _)
end K63
namespace K63
open PySem PySem.Spec L2 DL
structure Xf (P : Program) (w : World) (K : PySem.W.Frag) (mg : Str → Option Value) (base : Heap) : Prop where
  rx : RX P w K mg base (He.ga K "RefusedChunk")
  xf : XfC K (He.ga K "RefusedChunk")
  xno : PySem.W.findIn K (.ref (He.ga K "RefusedChunk")) "position" = some none
  xc : ExcC K (He.ga K "RefusedChunk")
  xk : PySem.W.kitOne K (.ref (He.ga K "RefusedChunk")) (.ref (He.ga K "ChiploreError")) = some true
  xm : PySem.W.exmOne K (.ref (He.ga K "RefusedChunk")) (.ref (He.ga K "RefusedChunk")) = some true
theorem fF {K : PySem.W.Frag} {x qual : Str} {st : Stmt} {f : Addr} {ps : List Str} (F : ∃ fd, FunD K x qual (defArgs st) (defBody st) (defScope st) [] [] f fd)
    (h : ∀ (kV doc pm : Value) (an : Option Addr) (cdv ct : Value) (us : List Value), us.length = ps.length → bindArgs (PySem.W.fnOf x qual (defArgs st) (defBody st) (defScope st) .none kV doc pm an cdv ct) ⟨us, []⟩ = pure (ps.zip us)) :
    ∃ fd, Fun K x qual st f fd ∧ Binds K fd ps [] := by
  obtain ⟨fd, F⟩ := F
  exact ⟨fd, He5.fun_of F, F.bindsN h⟩
/-- a table's entries, told by its object -/
def tabB (K : PySem.W.Frag) (a : Addr) (kvs : List (Tx × Option D)) : Bool := kvs.all fun p => match p.2 with
  | none => He.eqO (PySem.W.nsIn K a (tS p.1)) (some none)
  | some d => match PySem.W.nsIn K a (tS p.1), scV d with
    | some (some u), some v => He.relB v u
    | _, _ => false
theorem lookup_mem {kvs : List (Tx × Option D)} {x : Tx} {o : Option D} (h : kvs.lookup x = some o) : (x, o) ∈ kvs := by
  induction kvs with
  | nil => cases h
  | cons p r ih =>
    rw [List.lookup_cons] at h
    split at h
    · rename_i e
      have e1 : x = p.1 := by simpa using e
      have e2 : p.2 = o := Option.some.inj h
      rw [e1, ← e2]
      exact List.mem_cons_self
    · exact List.mem_cons_of_mem _ (ih h)
theorem tab_ok {K : PySem.W.Frag} {w : World} {a : Addr} {kvs : List (Tx × Option D)} (h : ∃ es n, KDict K w a es n) (g : tabB K a kvs = true) : Tb K w a kvs where
  kd := h
  val := fun x o hx => by
    have h2 := List.all_eq_true.mp g _ (lookup_mem hx)
    cases o with
    | none => exact He.eqO_ok h2
    | some d =>
      dsimp only at h2
      split at h2
      · rename_i u v e1 e2
        exact ⟨u, v, e1, e2, He.relB_ok h2⟩
      · cases h2
def fa : List He.Fa := [.free "len",
  .free "isinstance",
  .free "max",
  .free "int",
  .free "list",
  .free "str",
  .free "range",
  .free "tuple",
  .free "bool",
  .free "zip",
  .glo "line_of",
  .glo "write_within",
  .glo "write_claim",
  .glo "write_definition",
  .glo "line_starts",
  .glo "chunks",
  .glo "read_word",
  .glo "read_token",
  .glo "tokenize",
  .glo "depth_of",
  .glo "parse",
  .glo "_law_next",
  .glo "_law_same",
  .glo "_law_drawn",
  .glo "_law_tree",
  .glo "_law_read",
  .glo "_law_pairs",
  .glo "_law_joined",
  .glo "_law_tokens",
  .glo "_law_most_open",
  .glo "law",
  .glo "ChiploreError",
  .glo "RefusedChunk",
  .glo "Cursor",
  .glo "Parser",
  .cls "Cursor",
  .noat "Cursor" "tokens",
  .noat "Cursor" "length",
  .noat "Cursor" "at",
  .noat "Cursor" "opened",
  .meth "Cursor" "position",
  .meth "Cursor" "at_end",
  .meth "Cursor" "refuse",
  .meth "Cursor" "sees",
  .meth "Cursor" "sees_kind",
  .meth "Cursor" "seen_of",
  .meth "Cursor" "take",
  .meth "Cursor" "take_kind",
  .meth "Cursor" "accept",
  .meth "Cursor" "expect",
  .meth "Cursor" "enter",
  .meth "Cursor" "close",
  .mkr "Cursor",
  .cls "Parser",
  .noat "Parser" "cursor",
  .meth "Parser" "definition",
  .meth "Parser" "same",
  .meth "Parser" "given",
  .meth "Parser" "either",
  .meth "Parser" "both",
  .meth "Parser" "turned",
  .meth "Parser" "part",
  .mkr "Parser",
  .str "LOWER" "abcdefghijklmnopqrstuvwxyz",
  .str "WORD" "abcdefghijklmnopqrstuvwxyz0123456789_",
  .int "MOST_TOKENS" 200,
  .int "MOST_OPEN" 12,
  .int "MOST_DEPTH" 12,
  .glo "KEYWORDS",
  .glo "LONG_SIGNS",
  .glo "SHORT_SIGNS",
  .free "super",
  .glo "LINES",
  .glo "MARKS"]
def fn : List He.DefD := [⟨("line_of", none), "line_of", "line_of", defArgs st_line_of, defBody st_line_of, defScope st_line_of, [], []⟩,
  ⟨("write_within", none), "write_within", "write_within", defArgs st_write_within, defBody st_write_within, defScope st_write_within, [], []⟩,
  ⟨("write_claim", none), "write_claim", "write_claim", defArgs st_write_claim, defBody st_write_claim, defScope st_write_claim, [], []⟩,
  ⟨("write_definition", none), "write_definition", "write_definition", defArgs st_write_definition, defBody st_write_definition, defScope st_write_definition, [], []⟩,
  ⟨("line_starts", none), "line_starts", "line_starts", defArgs st_line_starts, defBody st_line_starts, defScope st_line_starts, [], []⟩,
  ⟨("chunks", none), "chunks", "chunks", defArgs st_chunks, defBody st_chunks, defScope st_chunks, [], []⟩,
  ⟨("read_word", none), "read_word", "read_word", defArgs st_read_word, defBody st_read_word, defScope st_read_word, [], []⟩,
  ⟨("read_token", none), "read_token", "read_token", defArgs st_read_token, defBody st_read_token, defScope st_read_token, [], []⟩,
  ⟨("tokenize", none), "tokenize", "tokenize", defArgs st_tokenize, defBody st_tokenize, defScope st_tokenize, [], []⟩,
  ⟨("Cursor", some "__init__"), "__init__", "Cursor.__init__", defArgs st_Cursor___init__, defBody st_Cursor___init__, defScope st_Cursor___init__, [], []⟩,
  ⟨("Cursor", some "position"), "position", "Cursor.position", defArgs st_Cursor_position, defBody st_Cursor_position, defScope st_Cursor_position, [], []⟩,
  ⟨("Cursor", some "at_end"), "at_end", "Cursor.at_end", defArgs st_Cursor_at_end, defBody st_Cursor_at_end, defScope st_Cursor_at_end, [], []⟩,
  ⟨("Cursor", some "refuse"), "refuse", "Cursor.refuse", defArgs st_Cursor_refuse, defBody st_Cursor_refuse, defScope st_Cursor_refuse, [], []⟩,
  ⟨("Cursor", some "sees"), "sees", "Cursor.sees", defArgs st_Cursor_sees, defBody st_Cursor_sees, defScope st_Cursor_sees, [], []⟩,
  ⟨("Cursor", some "sees_kind"), "sees_kind", "Cursor.sees_kind", defArgs st_Cursor_sees_kind, defBody st_Cursor_sees_kind, defScope st_Cursor_sees_kind, [], []⟩,
  ⟨("Cursor", some "seen_of"), "seen_of", "Cursor.seen_of", defArgs st_Cursor_seen_of, defBody st_Cursor_seen_of, defScope st_Cursor_seen_of, [], []⟩,
  ⟨("Cursor", some "take"), "take", "Cursor.take", defArgs st_Cursor_take, defBody st_Cursor_take, defScope st_Cursor_take, [], []⟩,
  ⟨("Cursor", some "take_kind"), "take_kind", "Cursor.take_kind", defArgs st_Cursor_take_kind, defBody st_Cursor_take_kind, defScope st_Cursor_take_kind, [], []⟩,
  ⟨("Cursor", some "accept"), "accept", "Cursor.accept", defArgs st_Cursor_accept, defBody st_Cursor_accept, defScope st_Cursor_accept, [], []⟩,
  ⟨("Cursor", some "expect"), "expect", "Cursor.expect", defArgs st_Cursor_expect, defBody st_Cursor_expect, defScope st_Cursor_expect, [], []⟩,
  ⟨("Cursor", some "enter"), "enter", "Cursor.enter", defArgs st_Cursor_enter, defBody st_Cursor_enter, defScope st_Cursor_enter, [], []⟩,
  ⟨("Cursor", some "close"), "close", "Cursor.close", defArgs st_Cursor_close, defBody st_Cursor_close, defScope st_Cursor_close, [], []⟩,
  ⟨("Parser", some "__init__"), "__init__", "Parser.__init__", defArgs st_Parser___init__, defBody st_Parser___init__, defScope st_Parser___init__, [], []⟩,
  ⟨("Parser", some "definition"), "definition", "Parser.definition", defArgs st_Parser_definition, defBody st_Parser_definition, defScope st_Parser_definition, [], []⟩,
  ⟨("Parser", some "same"), "same", "Parser.same", defArgs st_Parser_same, defBody st_Parser_same, defScope st_Parser_same, [], []⟩,
  ⟨("Parser", some "given"), "given", "Parser.given", defArgs st_Parser_given, defBody st_Parser_given, defScope st_Parser_given, [], []⟩,
  ⟨("Parser", some "either"), "either", "Parser.either", defArgs st_Parser_either, defBody st_Parser_either, defScope st_Parser_either, [], []⟩,
  ⟨("Parser", some "both"), "both", "Parser.both", defArgs st_Parser_both, defBody st_Parser_both, defScope st_Parser_both, [], []⟩,
  ⟨("Parser", some "turned"), "turned", "Parser.turned", defArgs st_Parser_turned, defBody st_Parser_turned, defScope st_Parser_turned, [], []⟩,
  ⟨("Parser", some "part"), "part", "Parser.part", defArgs st_Parser_part, defBody st_Parser_part, defScope st_Parser_part, [], []⟩,
  ⟨("depth_of", none), "depth_of", "depth_of", defArgs st_depth_of, defBody st_depth_of, defScope st_depth_of, [], []⟩,
  ⟨("parse", none), "parse", "parse", defArgs st_parse, defBody st_parse, defScope st_parse, [], []⟩,
  ⟨("_law_next", none), "_law_next", "_law_next", defArgs st__law_next, defBody st__law_next, defScope st__law_next, [], []⟩,
  ⟨("_law_same", none), "_law_same", "_law_same", defArgs st__law_same, defBody st__law_same, defScope st__law_same, [], []⟩,
  ⟨("_law_drawn", none), "_law_drawn", "_law_drawn", defArgs st__law_drawn, defBody st__law_drawn, defScope st__law_drawn, [], []⟩,
  ⟨("_law_tree", none), "_law_tree", "_law_tree", defArgs st__law_tree, defBody st__law_tree, defScope st__law_tree, [], []⟩,
  ⟨("_law_read", none), "_law_read", "_law_read", defArgs st__law_read, defBody st__law_read, defScope st__law_read, [], []⟩,
  ⟨("_law_pairs", none), "_law_pairs", "_law_pairs", defArgs st__law_pairs, defBody st__law_pairs, defScope st__law_pairs, [], []⟩,
  ⟨("_law_joined", none), "_law_joined", "_law_joined", defArgs st__law_joined, defBody st__law_joined, defScope st__law_joined, [], []⟩,
  ⟨("_law_tokens", none), "_law_tokens", "_law_tokens", defArgs st__law_tokens, defBody st__law_tokens, defScope st__law_tokens, [], []⟩,
  ⟨("_law_most_open", none), "_law_most_open", "_law_most_open", defArgs st__law_most_open, defBody st__law_most_open, defScope st__law_most_open, [], []⟩,
  ⟨("law", none), "law", "law", defArgs st_law, defBody st_law, defScope st_law, [], []⟩]
def exT (K : PySem.W.Frag) : Bool := He.tupB K "KEYWORDS" [.str "note", .str "ask", .str "name", .str "none"] && (He.tupB K "LONG_SIGNS" [.str "<->", .str "->"] && (He.tupB K "SHORT_SIGNS" [.str "(", .str ")", .str "&", .str "|", .str "~", .str "="] && (tabB K (He.ga K "LINES") kv_LINES && (tabB K (He.ga K "MARKS") kv_MARKS))))
theorem tb_KEYWORDS {K : PySem.W.Frag} (h : exT K = true) : He.tupB K "KEYWORDS" [.str "note", .str "ask", .str "name", .str "none"] = true := (He.ba h).1
theorem tb_LONG_SIGNS {K : PySem.W.Frag} (h : exT K = true) : He.tupB K "LONG_SIGNS" [.str "<->", .str "->"] = true := (He.ba (He.ba h).2).1
theorem tb_SHORT_SIGNS {K : PySem.W.Frag} (h : exT K = true) : He.tupB K "SHORT_SIGNS" [.str "(", .str ")", .str "&", .str "|", .str "~", .str "="] = true := (He.ba (He.ba (He.ba h).2).2).1
theorem tb_LINES {K : PySem.W.Frag} (h : exT K = true) : tabB K (He.ga K "LINES") kv_LINES = true := (He.ba (He.ba (He.ba (He.ba h).2).2).2).1
theorem tb_MARKS {K : PySem.W.Frag} (h : exT K = true) : tabB K (He.ga K "MARKS") kv_MARKS = true := (He.ba (He.ba (He.ba (He.ba h).2).2).2).2
def tabR (K : PySem.W.Frag) : List (Option (List (Option (Str × Int)))) := [He.dicW K (He.ga K "LINES"), He.dicW K (He.ga K "MARKS")]
def tabV (w : World) : List (Option (List (Option (Str × Int)))) := [some (He.keysIn w.params ["same", "given", "or", "and", "not"]), some (He.keysIn w.params ["same", "given", "or", "and"])]
theorem tk_LINES {K : PySem.W.Frag} {w : World} (h : tabR K = tabV w) : ∃ es n, KDict K w (He.ga K "LINES") es n := He.dicW_ok (ks := ["same", "given", "or", "and", "not"]) (by
  unfold tabR tabV at h
  injection h)
theorem tk_MARKS {K : PySem.W.Frag} {w : World} (h : tabR K = tabV w) : ∃ es n, KDict K w (He.ga K "MARKS") es n := He.dicW_ok (ks := ["same", "given", "or", "and"]) (by
  unfold tabR tabV at h
  injection h with _ h
  injection h)
theorem zf {P : Program} {w : World} {K : PySem.W.Frag} {h : Heap} {mg : Str → Option Value} {base : Heap} (X : K.In h) (G : h.Ns mainGlobals mg) (c : He.SaysD fa fn K) (e : exT K = true) (hT : tabR K = tabV w) (x : Xf P w K mg base) : Zf P w K mg base where
  f_len := He.free_ok X G (c.fact 0 (f := .free "len") rfl)
  f_isinstance := He.free_ok X G (c.fact 1 (f := .free "isinstance") rfl)
  f_max := He.free_ok X G (c.fact 2 (f := .free "max") rfl)
  f_int := He.free_ok X G (c.fact 3 (f := .free "int") rfl)
  f_list := He.free_ok X G (c.fact 4 (f := .free "list") rfl)
  f_str := He.free_ok X G (c.fact 5 (f := .free "str") rfl)
  f_range := He.free_ok X G (c.fact 6 (f := .free "range") rfl)
  f_tuple := He.free_ok X G (c.fact 7 (f := .free "tuple") rfl)
  f_bool := He.free_ok X G (c.fact 8 (f := .free "bool") rfl)
  f_zip := He.free_ok X G (c.fact 9 (f := .free "zip") rfl)
  g_line_of := He.glo_ok X G (c.fact 10 (f := .glo "line_of") rfl)
  F_line_of := fF (c.def_ 0 (d := ⟨("line_of", none), "line_of", "line_of", defArgs st_line_of, defBody st_line_of, defScope st_line_of, [], []⟩) rfl) (fun _ _ _ _ _ _ us hl => match us, hl with | [_], _ => rfl)
  g_write_within := He.glo_ok X G (c.fact 11 (f := .glo "write_within") rfl)
  F_write_within := fF (c.def_ 1 (d := ⟨("write_within", none), "write_within", "write_within", defArgs st_write_within, defBody st_write_within, defScope st_write_within, [], []⟩) rfl) (fun _ _ _ _ _ _ us hl => match us, hl with | [_, _], _ => rfl)
  g_write_claim := He.glo_ok X G (c.fact 12 (f := .glo "write_claim") rfl)
  F_write_claim := fF (c.def_ 2 (d := ⟨("write_claim", none), "write_claim", "write_claim", defArgs st_write_claim, defBody st_write_claim, defScope st_write_claim, [], []⟩) rfl) (fun _ _ _ _ _ _ us hl => match us, hl with | [_], _ => rfl)
  g_write_definition := He.glo_ok X G (c.fact 13 (f := .glo "write_definition") rfl)
  F_write_definition := fF (c.def_ 3 (d := ⟨("write_definition", none), "write_definition", "write_definition", defArgs st_write_definition, defBody st_write_definition, defScope st_write_definition, [], []⟩) rfl) (fun _ _ _ _ _ _ us hl => match us, hl with | [_], _ => rfl)
  g_line_starts := He.glo_ok X G (c.fact 14 (f := .glo "line_starts") rfl)
  F_line_starts := fF (c.def_ 4 (d := ⟨("line_starts", none), "line_starts", "line_starts", defArgs st_line_starts, defBody st_line_starts, defScope st_line_starts, [], []⟩) rfl) (fun _ _ _ _ _ _ us hl => match us, hl with | [_], _ => rfl)
  g_chunks := He.glo_ok X G (c.fact 15 (f := .glo "chunks") rfl)
  F_chunks := fF (c.def_ 5 (d := ⟨("chunks", none), "chunks", "chunks", defArgs st_chunks, defBody st_chunks, defScope st_chunks, [], []⟩) rfl) (fun _ _ _ _ _ _ us hl => match us, hl with | [_], _ => rfl)
  g_read_word := He.glo_ok X G (c.fact 16 (f := .glo "read_word") rfl)
  F_read_word := fF (c.def_ 6 (d := ⟨("read_word", none), "read_word", "read_word", defArgs st_read_word, defBody st_read_word, defScope st_read_word, [], []⟩) rfl) (fun _ _ _ _ _ _ us hl => match us, hl with | [_, _], _ => rfl)
  g_read_token := He.glo_ok X G (c.fact 17 (f := .glo "read_token") rfl)
  F_read_token := fF (c.def_ 7 (d := ⟨("read_token", none), "read_token", "read_token", defArgs st_read_token, defBody st_read_token, defScope st_read_token, [], []⟩) rfl) (fun _ _ _ _ _ _ us hl => match us, hl with | [_, _], _ => rfl)
  g_tokenize := He.glo_ok X G (c.fact 18 (f := .glo "tokenize") rfl)
  F_tokenize := fF (c.def_ 8 (d := ⟨("tokenize", none), "tokenize", "tokenize", defArgs st_tokenize, defBody st_tokenize, defScope st_tokenize, [], []⟩) rfl) (fun _ _ _ _ _ _ us hl => match us, hl with | [_], _ => rfl)
  F_Cursor___init__ := fF (c.def_ 9 (d := ⟨("Cursor", some "__init__"), "__init__", "Cursor.__init__", defArgs st_Cursor___init__, defBody st_Cursor___init__, defScope st_Cursor___init__, [], []⟩) rfl) (fun _ _ _ _ _ _ us hl => match us, hl with | [_, _], _ => rfl)
  F_Cursor_position := fF (c.def_ 10 (d := ⟨("Cursor", some "position"), "position", "Cursor.position", defArgs st_Cursor_position, defBody st_Cursor_position, defScope st_Cursor_position, [], []⟩) rfl) (fun _ _ _ _ _ _ us hl => match us, hl with | [_], _ => rfl)
  F_Cursor_at_end := fF (c.def_ 11 (d := ⟨("Cursor", some "at_end"), "at_end", "Cursor.at_end", defArgs st_Cursor_at_end, defBody st_Cursor_at_end, defScope st_Cursor_at_end, [], []⟩) rfl) (fun _ _ _ _ _ _ us hl => match us, hl with | [_], _ => rfl)
  F_Cursor_refuse := fF (c.def_ 12 (d := ⟨("Cursor", some "refuse"), "refuse", "Cursor.refuse", defArgs st_Cursor_refuse, defBody st_Cursor_refuse, defScope st_Cursor_refuse, [], []⟩) rfl) (fun _ _ _ _ _ _ us hl => match us, hl with | [_], _ => rfl)
  F_Cursor_sees := fF (c.def_ 13 (d := ⟨("Cursor", some "sees"), "sees", "Cursor.sees", defArgs st_Cursor_sees, defBody st_Cursor_sees, defScope st_Cursor_sees, [], []⟩) rfl) (fun _ _ _ _ _ _ us hl => match us, hl with | [_, _], _ => rfl)
  F_Cursor_sees_kind := fF (c.def_ 14 (d := ⟨("Cursor", some "sees_kind"), "sees_kind", "Cursor.sees_kind", defArgs st_Cursor_sees_kind, defBody st_Cursor_sees_kind, defScope st_Cursor_sees_kind, [], []⟩) rfl) (fun _ _ _ _ _ _ us hl => match us, hl with | [_, _], _ => rfl)
  F_Cursor_seen_of := fF (c.def_ 15 (d := ⟨("Cursor", some "seen_of"), "seen_of", "Cursor.seen_of", defArgs st_Cursor_seen_of, defBody st_Cursor_seen_of, defScope st_Cursor_seen_of, [], []⟩) rfl) (fun _ _ _ _ _ _ us hl => match us, hl with | [_, _], _ => rfl)
  F_Cursor_take := fF (c.def_ 16 (d := ⟨("Cursor", some "take"), "take", "Cursor.take", defArgs st_Cursor_take, defBody st_Cursor_take, defScope st_Cursor_take, [], []⟩) rfl) (fun _ _ _ _ _ _ us hl => match us, hl with | [_], _ => rfl)
  F_Cursor_take_kind := fF (c.def_ 17 (d := ⟨("Cursor", some "take_kind"), "take_kind", "Cursor.take_kind", defArgs st_Cursor_take_kind, defBody st_Cursor_take_kind, defScope st_Cursor_take_kind, [], []⟩) rfl) (fun _ _ _ _ _ _ us hl => match us, hl with | [_, _], _ => rfl)
  F_Cursor_accept := fF (c.def_ 18 (d := ⟨("Cursor", some "accept"), "accept", "Cursor.accept", defArgs st_Cursor_accept, defBody st_Cursor_accept, defScope st_Cursor_accept, [], []⟩) rfl) (fun _ _ _ _ _ _ us hl => match us, hl with | [_, _], _ => rfl)
  F_Cursor_expect := fF (c.def_ 19 (d := ⟨("Cursor", some "expect"), "expect", "Cursor.expect", defArgs st_Cursor_expect, defBody st_Cursor_expect, defScope st_Cursor_expect, [], []⟩) rfl) (fun _ _ _ _ _ _ us hl => match us, hl with | [_, _], _ => rfl)
  F_Cursor_enter := fF (c.def_ 20 (d := ⟨("Cursor", some "enter"), "enter", "Cursor.enter", defArgs st_Cursor_enter, defBody st_Cursor_enter, defScope st_Cursor_enter, [], []⟩) rfl) (fun _ _ _ _ _ _ us hl => match us, hl with | [_, _], _ => rfl)
  F_Cursor_close := fF (c.def_ 21 (d := ⟨("Cursor", some "close"), "close", "Cursor.close", defArgs st_Cursor_close, defBody st_Cursor_close, defScope st_Cursor_close, [], []⟩) rfl) (fun _ _ _ _ _ _ us hl => match us, hl with | [_, _], _ => rfl)
  F_Parser___init__ := fF (c.def_ 22 (d := ⟨("Parser", some "__init__"), "__init__", "Parser.__init__", defArgs st_Parser___init__, defBody st_Parser___init__, defScope st_Parser___init__, [], []⟩) rfl) (fun _ _ _ _ _ _ us hl => match us, hl with | [_, _], _ => rfl)
  F_Parser_definition := fF (c.def_ 23 (d := ⟨("Parser", some "definition"), "definition", "Parser.definition", defArgs st_Parser_definition, defBody st_Parser_definition, defScope st_Parser_definition, [], []⟩) rfl) (fun _ _ _ _ _ _ us hl => match us, hl with | [_], _ => rfl)
  F_Parser_same := fF (c.def_ 24 (d := ⟨("Parser", some "same"), "same", "Parser.same", defArgs st_Parser_same, defBody st_Parser_same, defScope st_Parser_same, [], []⟩) rfl) (fun _ _ _ _ _ _ us hl => match us, hl with | [_], _ => rfl)
  F_Parser_given := fF (c.def_ 25 (d := ⟨("Parser", some "given"), "given", "Parser.given", defArgs st_Parser_given, defBody st_Parser_given, defScope st_Parser_given, [], []⟩) rfl) (fun _ _ _ _ _ _ us hl => match us, hl with | [_], _ => rfl)
  F_Parser_either := fF (c.def_ 26 (d := ⟨("Parser", some "either"), "either", "Parser.either", defArgs st_Parser_either, defBody st_Parser_either, defScope st_Parser_either, [], []⟩) rfl) (fun _ _ _ _ _ _ us hl => match us, hl with | [_], _ => rfl)
  F_Parser_both := fF (c.def_ 27 (d := ⟨("Parser", some "both"), "both", "Parser.both", defArgs st_Parser_both, defBody st_Parser_both, defScope st_Parser_both, [], []⟩) rfl) (fun _ _ _ _ _ _ us hl => match us, hl with | [_], _ => rfl)
  F_Parser_turned := fF (c.def_ 28 (d := ⟨("Parser", some "turned"), "turned", "Parser.turned", defArgs st_Parser_turned, defBody st_Parser_turned, defScope st_Parser_turned, [], []⟩) rfl) (fun _ _ _ _ _ _ us hl => match us, hl with | [_], _ => rfl)
  F_Parser_part := fF (c.def_ 29 (d := ⟨("Parser", some "part"), "part", "Parser.part", defArgs st_Parser_part, defBody st_Parser_part, defScope st_Parser_part, [], []⟩) rfl) (fun _ _ _ _ _ _ us hl => match us, hl with | [_], _ => rfl)
  g_depth_of := He.glo_ok X G (c.fact 19 (f := .glo "depth_of") rfl)
  F_depth_of := fF (c.def_ 30 (d := ⟨("depth_of", none), "depth_of", "depth_of", defArgs st_depth_of, defBody st_depth_of, defScope st_depth_of, [], []⟩) rfl) (fun _ _ _ _ _ _ us hl => match us, hl with | [_], _ => rfl)
  g_parse := He.glo_ok X G (c.fact 20 (f := .glo "parse") rfl)
  F_parse := fF (c.def_ 31 (d := ⟨("parse", none), "parse", "parse", defArgs st_parse, defBody st_parse, defScope st_parse, [], []⟩) rfl) (fun _ _ _ _ _ _ us hl => match us, hl with | [_], _ => rfl)
  g__law_next := He.glo_ok X G (c.fact 21 (f := .glo "_law_next") rfl)
  F__law_next := fF (c.def_ 32 (d := ⟨("_law_next", none), "_law_next", "_law_next", defArgs st__law_next, defBody st__law_next, defScope st__law_next, [], []⟩) rfl) (fun _ _ _ _ _ _ us hl => match us, hl with | [_, _], _ => rfl)
  g__law_same := He.glo_ok X G (c.fact 22 (f := .glo "_law_same") rfl)
  F__law_same := fF (c.def_ 33 (d := ⟨("_law_same", none), "_law_same", "_law_same", defArgs st__law_same, defBody st__law_same, defScope st__law_same, [], []⟩) rfl) (fun _ _ _ _ _ _ us hl => match us, hl with | [_, _], _ => rfl)
  g__law_drawn := He.glo_ok X G (c.fact 23 (f := .glo "_law_drawn") rfl)
  F__law_drawn := fF (c.def_ 34 (d := ⟨("_law_drawn", none), "_law_drawn", "_law_drawn", defArgs st__law_drawn, defBody st__law_drawn, defScope st__law_drawn, [], []⟩) rfl) (fun _ _ _ _ _ _ us hl => match us, hl with | [_], _ => rfl)
  g__law_tree := He.glo_ok X G (c.fact 24 (f := .glo "_law_tree") rfl)
  F__law_tree := fF (c.def_ 35 (d := ⟨("_law_tree", none), "_law_tree", "_law_tree", defArgs st__law_tree, defBody st__law_tree, defScope st__law_tree, [], []⟩) rfl) (fun _ _ _ _ _ _ us hl => match us, hl with | [_, _], _ => rfl)
  g__law_read := He.glo_ok X G (c.fact 25 (f := .glo "_law_read") rfl)
  F__law_read := fF (c.def_ 36 (d := ⟨("_law_read", none), "_law_read", "_law_read", defArgs st__law_read, defBody st__law_read, defScope st__law_read, [], []⟩) rfl) (fun _ _ _ _ _ _ us hl => match us, hl with | [_], _ => rfl)
  g__law_pairs := He.glo_ok X G (c.fact 26 (f := .glo "_law_pairs") rfl)
  F__law_pairs := fF (c.def_ 37 (d := ⟨("_law_pairs", none), "_law_pairs", "_law_pairs", defArgs st__law_pairs, defBody st__law_pairs, defScope st__law_pairs, [], []⟩) rfl) (fun _ _ _ _ _ _ us hl => match us, hl with | [_], _ => rfl)
  g__law_joined := He.glo_ok X G (c.fact 27 (f := .glo "_law_joined") rfl)
  F__law_joined := fF (c.def_ 38 (d := ⟨("_law_joined", none), "_law_joined", "_law_joined", defArgs st__law_joined, defBody st__law_joined, defScope st__law_joined, [], []⟩) rfl) (fun _ _ _ _ _ _ us hl => match us, hl with | [_, _, _], _ => rfl)
  g__law_tokens := He.glo_ok X G (c.fact 28 (f := .glo "_law_tokens") rfl)
  F__law_tokens := fF (c.def_ 39 (d := ⟨("_law_tokens", none), "_law_tokens", "_law_tokens", defArgs st__law_tokens, defBody st__law_tokens, defScope st__law_tokens, [], []⟩) rfl) (fun _ _ _ _ _ _ us hl => match us, hl with | [_, _], _ => rfl)
  g__law_most_open := He.glo_ok X G (c.fact 29 (f := .glo "_law_most_open") rfl)
  F__law_most_open := fF (c.def_ 40 (d := ⟨("_law_most_open", none), "_law_most_open", "_law_most_open", defArgs st__law_most_open, defBody st__law_most_open, defScope st__law_most_open, [], []⟩) rfl) (fun _ _ _ _ _ _ us hl => match us, hl with | [_], _ => rfl)
  g_law := He.glo_ok X G (c.fact 30 (f := .glo "law") rfl)
  F_law := fF (c.def_ 41 (d := ⟨("law", none), "law", "law", defArgs st_law, defBody st_law, defScope st_law, [], []⟩) rfl) (fun _ _ _ _ _ _ us hl => match us, hl with | [_], _ => rfl)
  g_ChiploreError := He.glo_ok X G (c.fact 31 (f := .glo "ChiploreError") rfl)
  g_RefusedChunk := He.glo_ok X G (c.fact 32 (f := .glo "RefusedChunk") rfl)
  g_Cursor := He.glo_ok X G (c.fact 33 (f := .glo "Cursor") rfl)
  g_Parser := He.glo_ok X G (c.fact 34 (f := .glo "Parser") rfl)
  c_Cursor := He.cls_ok (c.fact 35 (f := .cls "Cursor") rfl)
  n_Cursor_tokens := He.noat_ok (c.fact 36 (f := .noat "Cursor" "tokens") rfl)
  n_Cursor_length := He.noat_ok (c.fact 37 (f := .noat "Cursor" "length") rfl)
  n_Cursor_at := He.noat_ok (c.fact 38 (f := .noat "Cursor" "at") rfl)
  n_Cursor_opened := He.noat_ok (c.fact 39 (f := .noat "Cursor" "opened") rfl)
  m_Cursor_position := He.meth_ok (c.fact 40 (f := .meth "Cursor" "position") rfl)
  m_Cursor_at_end := He.meth_ok (c.fact 41 (f := .meth "Cursor" "at_end") rfl)
  m_Cursor_refuse := He.meth_ok (c.fact 42 (f := .meth "Cursor" "refuse") rfl)
  m_Cursor_sees := He.meth_ok (c.fact 43 (f := .meth "Cursor" "sees") rfl)
  m_Cursor_sees_kind := He.meth_ok (c.fact 44 (f := .meth "Cursor" "sees_kind") rfl)
  m_Cursor_seen_of := He.meth_ok (c.fact 45 (f := .meth "Cursor" "seen_of") rfl)
  m_Cursor_take := He.meth_ok (c.fact 46 (f := .meth "Cursor" "take") rfl)
  m_Cursor_take_kind := He.meth_ok (c.fact 47 (f := .meth "Cursor" "take_kind") rfl)
  m_Cursor_accept := He.meth_ok (c.fact 48 (f := .meth "Cursor" "accept") rfl)
  m_Cursor_expect := He.meth_ok (c.fact 49 (f := .meth "Cursor" "expect") rfl)
  m_Cursor_enter := He.meth_ok (c.fact 50 (f := .meth "Cursor" "enter") rfl)
  m_Cursor_close := He.meth_ok (c.fact 51 (f := .meth "Cursor" "close") rfl)
  k_Cursor := He.mkr_ok (c.fact 52 (f := .mkr "Cursor") rfl)
  c_Parser := He.cls_ok (c.fact 53 (f := .cls "Parser") rfl)
  n_Parser_cursor := He.noat_ok (c.fact 54 (f := .noat "Parser" "cursor") rfl)
  m_Parser_definition := He.meth_ok (c.fact 55 (f := .meth "Parser" "definition") rfl)
  m_Parser_same := He.meth_ok (c.fact 56 (f := .meth "Parser" "same") rfl)
  m_Parser_given := He.meth_ok (c.fact 57 (f := .meth "Parser" "given") rfl)
  m_Parser_either := He.meth_ok (c.fact 58 (f := .meth "Parser" "either") rfl)
  m_Parser_both := He.meth_ok (c.fact 59 (f := .meth "Parser" "both") rfl)
  m_Parser_turned := He.meth_ok (c.fact 60 (f := .meth "Parser" "turned") rfl)
  m_Parser_part := He.meth_ok (c.fact 61 (f := .meth "Parser" "part") rfl)
  k_Parser := He.mkr_ok (c.fact 62 (f := .mkr "Parser") rfl)
  s_LOWER := He.str_ok X G (c.fact 63 (f := .str "LOWER" "abcdefghijklmnopqrstuvwxyz") rfl)
  s_WORD := He.str_ok X G (c.fact 64 (f := .str "WORD" "abcdefghijklmnopqrstuvwxyz0123456789_") rfl)
  i_MOST_TOKENS := He.int_ok X G (c.fact 65 (f := .int "MOST_TOKENS" 200) rfl)
  i_MOST_OPEN := He.int_ok X G (c.fact 66 (f := .int "MOST_OPEN" 12) rfl)
  i_MOST_DEPTH := He.int_ok X G (c.fact 67 (f := .int "MOST_DEPTH" 12) rfl)
  g_KEYWORDS := He.glo_ok X G (c.fact 68 (f := .glo "KEYWORDS") rfl)
  t_KEYWORDS := fun H => He.tupB_ok (x := "KEYWORDS") (vs := [.str "note", .str "ask", .str "name", .str "none"]) (tb_KEYWORDS e) H
  g_LONG_SIGNS := He.glo_ok X G (c.fact 69 (f := .glo "LONG_SIGNS") rfl)
  t_LONG_SIGNS := fun H => He.tupB_ok (x := "LONG_SIGNS") (vs := [.str "<->", .str "->"]) (tb_LONG_SIGNS e) H
  g_SHORT_SIGNS := He.glo_ok X G (c.fact 70 (f := .glo "SHORT_SIGNS") rfl)
  t_SHORT_SIGNS := fun H => He.tupB_ok (x := "SHORT_SIGNS") (vs := [.str "(", .str ")", .str "&", .str "|", .str "~", .str "="]) (tb_SHORT_SIGNS e) H
  g_LINES := He.glo_ok X G (c.fact 72 (f := .glo "LINES") rfl)
  d_LINES := tab_ok (tk_LINES hT) (tb_LINES e)
  g_MARKS := He.glo_ok X G (c.fact 73 (f := .glo "MARKS") rfl)
  d_MARKS := tab_ok (tk_MARKS hT) (tb_MARKS e)
  rx := x.rx
  xf := x.xf
  xno := x.xno
  xc := x.xc
  xk := x.xk
  xm := x.xm
theorem z_super {K : PySem.W.Frag} {h : Heap} {mg : Str → Option Value} (X : K.In h) (G : h.Ns mainGlobals mg) (c : He.SaysD fa fn K) : mg "super" = none := He.free_ok X G (c.fact 71 (f := .free "super") rfl)
theorem z_str {K : PySem.W.Frag} {h : Heap} {mg : Str → Option Value} (X : K.In h) (G : h.Ns mainGlobals mg) (c : He.SaysD fa fn K) : mg "str" = none := He.free_ok X G (c.fact 5 (f := .free "str") rfl)
theorem z_glaw {K : PySem.W.Frag} {h : Heap} {mg : Str → Option Value} (X : K.In h) (G : h.Ns mainGlobals mg) (c : He.SaysD fa fn K) : mg "law" = some (.ref (He.ga K "law")) := He.glo_ok X G (c.fact 30 (f := .glo "law") rfl)
theorem z_law {K : PySem.W.Frag} (c : He.SaysD fa fn K) : ∃ fd, FunD K "law" "law" (defArgs st_law) (defBody st_law) (defScope st_law) [] [] (He.ga K "law") fd := c.def_ 41 (d := ⟨("law", none), "law", "law", defArgs st_law, defBody st_law, defScope st_law, [], []⟩) rfl
end K63
namespace K63
open PySem PySem.Spec L2 DL
/-- the class C, an exception over ValueError -/
def clsB (K : PySem.W.Frag) (C : Addr) : Bool := match K.lookup C with
  | some ⟨.type t, _, .cls cd, ⟨[_, _, _, _, k4, _]⟩⟩ => decide (t = "type") && (decide (cd.mro = .ref C :: cd.mro.tail) && (PySem.HandSPX.refsVE cd.mro.tail && (cd.hasDict && (!cd.hasDel && decide (k4 = some (.builtin "ValueError.__new__"))))))
  | _ => false
theorem clsB_ok {K : PySem.W.Frag} {C : Addr} (h : clsB K C = true) : ∃ nm q N bs bm sn sub ab col dd k0 k1 k2 k3 k5, K.lookup C = some (excClassObj nm q C N bs bm true sn sub ab col dd k0 k1 k2 k3 k5 "ValueError.__new__") ∧ PySem.HandSPX.refsVE bm = true := by
  unfold clsB at h
  split at h
  · rename_i t dd cd k0 k1 k2 k3 k4 k5 q
    obtain ⟨h1, h⟩ := He.ba h
    obtain ⟨h2, h⟩ := He.ba h
    obtain ⟨h3, h⟩ := He.ba h
    obtain ⟨h4, h⟩ := He.ba h
    obtain ⟨h5, h6⟩ := He.ba h
    have e1 := of_decide_eq_true h1
    have e2 := of_decide_eq_true h2
    have e6 := of_decide_eq_true h6
    obtain ⟨nm, bs, mro, ns, qn, hd, sn, sb, ab, col, del⟩ := cd
    dsimp only at e2 h3 h4 h5
    subst e1 e6 h4
    have e5 : del = false := by simpa using h5
    subst e5
    rw [e2] at q
    exact ⟨_, _, _, _, _, _, _, _, _, _, _, _, _, _, _, q, h3⟩
  · cases h
def oexB (K : PySem.W.Frag) (C : Addr) : Bool := clsB K C && (He.eqO (PySem.W.findIn K (.ref C) "__setattr__") (some (some (.builtin "object.__setattr__"))) && (decide (PySem.W.subIn K (.ref C) (.type "BaseException") = some true) && (decide (PySem.W.typeIn K (.ref C) = some (.type "type")) && PySem.W.keepIn K (.ref C))))
theorem oexB_ok {K : PySem.W.Frag} {C : Addr} (h : oexB K C = true) : OexC K C := by
  obtain ⟨h1, h⟩ := He.ba h
  obtain ⟨h2, h⟩ := He.ba h
  obtain ⟨h3, h⟩ := He.ba h
  obtain ⟨h4, h5⟩ := He.ba h
  exact ⟨clsB_ok h1, He.eqO_ok h2, of_decide_eq_true h3, of_decide_eq_true h4, h5⟩
def excB (K : PySem.W.Frag) (D : Addr) : Bool := He.eqO (PySem.W.findIn K (.ref D) "__getattribute__") (some (some (.builtin "BaseException.__getattribute__"))) && (He.eqO (PySem.W.findIn K (.ref D) "__getattr__") (some none) && (decide (PySem.W.subIn K (.ref D) (.type "BaseException") = some true) &&
  (PySem.W.hasDictIn K D && (He.eqO (PySem.W.findIn K (.ref D) "__class__") (some (some (.builtin "object.__class__"))) && (He.eqO (PySem.W.specialIn K (.builtin "object.__class__") "__get__") (some (some (.builtin "getset_descriptor.__get__"))) &&
    (decide (PySem.W.takesIn K (.builtin "object.__class__") = some true) && decide (PySem.W.mroIn K D (.type "object") = some true)))))))
theorem excB_ok {K : PySem.W.Frag} {D : Addr} (h : excB K D = true) : ExcC K D := by
  obtain ⟨h1, h⟩ := He.ba h
  obtain ⟨h2, h⟩ := He.ba h
  obtain ⟨h3, h⟩ := He.ba h
  obtain ⟨h4, h⟩ := He.ba h
  obtain ⟨h5, h⟩ := He.ba h
  obtain ⟨h6, h⟩ := He.ba h
  obtain ⟨h7, h8⟩ := He.ba h
  exact ⟨He.eqO_ok h1, He.eqO_ok h2, of_decide_eq_true h3, h4, He.eqO_ok h5, He.eqO_ok h6, of_decide_eq_true h7, of_decide_eq_true h8⟩
abbrev st_init : Stmt := inClass (top 12) 0
abbrev rC (K : PySem.W.Frag) : Addr := He.ga K "RefusedChunk"
abbrev rI (K : PySem.W.Frag) : Addr := He.ma K (rC K) "__init__"
abbrev PR : Program := PySem.Challenge.pw_chiplore_k63_written_definitions_read_ba
/-- what its __init__ names: its code, its cell -/
def wayB (K : PySem.W.Frag) : Bool := match K.lookup (rI K) with
  | some ⟨_, _, .func fd, _⟩ => (match fd.code, fd.closure with
    | .ref cda, [(_, cc)] => PySem.W.codeIn K (.ref cda) "RefusedChunk.__init__" && ((match K.lookup cda with
        | some ⟨_, _, .fields vs, _⟩ => (match (vs[2]? : Option Value) with
          | some (Value.str n _) => decide (n = PR.main.file)
          | _ => false)
        | _ => false) && (match K.lookup cc with
        | some ⟨_, _, .cell (some v), _⟩ => decide (v = .ref (rC K))
        | _ => false))
    | _, _ => false)
  | _ => false
abbrev FnR : Type := Option (Str × Str × Arguments × FuncBody × Scope × Addr × Addr × List Str × Value)
def fnR (K : PySem.W.Frag) : FnR := match K.lookup (rI K) with
  | some ⟨_, _, .func fd, _⟩ => some (fd.name, fd.qualname, fd.params, fd.body, fd.scope, fd.globals, fd.builtins, fd.closure.map (·.1), fd.defaults)
  | _ => none
def fnRv : FnR := some ("__init__", "RefusedChunk.__init__", defArgs st_init, .stmts (defBody st_init), defScope st_init, mainGlobals, builtinsNs, ["__class__"], .none)
def exR (K : PySem.W.Frag) : Bool := oexB K (rC K) && (wayB K && (He.eqO (PySem.W.findIn K (.ref (rC K)) "__init__") (some (some (.ref (rI K)))) && (decide (PySem.W.typeIn K (.ref (rI K)) = some (.type "function")) && (He.eqO (PySem.W.ks_superIn K (rC K) (rC K) "__init__") (some (some (.builtin "ValueError.__init__"))) &&
  (He.eqO (PySem.W.nsIn K cStatics "thirdparty.any") (some none) && (decide (PySem.W.subIn K (.ref (rC K)) (.type "ValueError") = some true) && (He.eqO (PySem.W.findIn K (.ref (rC K)) "position") (some none) && (decide (PySem.W.mroIn K (rC K) (.ref (rC K)) = some true) &&
    (xfB K (rC K) && (excB K (rC K) && (decide (PySem.W.kitOne K (.ref (rC K)) (.ref (He.ga K "ChiploreError")) = some true) && decide (PySem.W.exmOne K (.ref (rC K)) (.ref (rC K)) = some true))))))))))))
theorem way_ok {K : PySem.W.Frag} (h : wayB K = true) (e : fnR K = fnRv) : ∃ (cc cda : Addr) (kV doc pm : Value) (an : Option Addr) (ct : Value) (oc : Value) (od : Option Addr) (osl : Array (Option Value)) (fd : FuncData),
    fd = PySem.W.ksFn "__init__" "RefusedChunk.__init__" (defArgs st_init) (defBody st_init) (defScope st_init) .none kV doc pm an (.ref cda) ct cc ∧ K.lookup (rI K) = some ⟨oc, od, .func fd, osl⟩ ∧ PySem.W.codeIn K (.ref cda) "RefusedChunk.__init__" = true ∧
      (∃ (oc : Value) (od : Option Addr) (vs : Array Value) (sl : Array (Option Value)) (tf : PySem.Tok), K.lookup cda = some ⟨oc, od, .fields vs, sl⟩ ∧ vs[2]? = some (.str PR.main.file tf)) ∧
      ∃ (cl : Value) (cld : Option Addr) (csl : Array (Option Value)), K.lookup cc = some ⟨cl, cld, .cell (some (.ref (rC K))), csl⟩ := by
  unfold wayB at h
  split at h
  · rename_i oc od fd osl q
    split at h
    · rename_i cda s0 cc e1 e2
      obtain ⟨h1, h⟩ := He.ba h
      obtain ⟨h2, h3⟩ := He.ba h
      unfold fnR at e
      rw [q] at e
      obtain ⟨nm, qn, pa, bd, sc, gl, clo, dV, kV, doc, pm, an, cd, ct, bl⟩ := fd
      dsimp only at e1 e2 e
      subst e1 e2
      have e' := Option.some.inj e
      injection e' with a1 e'
      injection e' with a2 e'
      injection e' with a3 e'
      injection e' with a4 e'
      injection e' with a5 e'
      injection e' with a6 e'
      injection e' with a7 e'
      injection e' with a8 a9
      have a8 : s0 = "__class__" := by injection a8
      subst a1 a2 a3 a4 a5 a6 a7 a8 a9
      refine ⟨cc, cda, kV, doc, pm, an, ct, oc, od, osl, _, rfl, q, h1, ?_, ?_⟩
      · split at h2
        · rename_i vs sl q2
          split at h2
          · rename_i n tf q3
            have e3 := of_decide_eq_true h2
            subst e3
            exact ⟨_, _, _, _, _, q2, q3⟩
          · cases h2
        · cases h2
      · split at h3
        · rename_i v q2
          have e3 := of_decide_eq_true h3
          subst e3
          exact ⟨_, _, _, q2⟩
        · cases h3
    · cases h
  · cases h
theorem xf_of {w : World} {K : PySem.W.Frag} {mg : Str → Option Value} {base : Heap} (h : exR K = true) (e : fnR K = fnRv) (msup : mg "super" = none) (mstr : mg "str" = none) : Xf PR w K mg base := by
  obtain ⟨h1, h⟩ := He.ba h
  obtain ⟨h2, h⟩ := He.ba h
  obtain ⟨h3, h⟩ := He.ba h
  obtain ⟨h4, h⟩ := He.ba h
  obtain ⟨h5, h⟩ := He.ba h
  obtain ⟨h6, h⟩ := He.ba h
  obtain ⟨h7, h⟩ := He.ba h
  obtain ⟨h8, h⟩ := He.ba h
  obtain ⟨h9, h⟩ := He.ba h
  obtain ⟨h10, h⟩ := He.ba h
  obtain ⟨h11, h⟩ := He.ba h
  obtain ⟨h12, h13⟩ := He.ba h
  obtain ⟨cc, cda, kV, doc, pm, an, ct, oc, od, osl, fd, e1, lk, hcd, hfile, hcell⟩ := way_ok h2 e
  have R : RF PR K "RefusedChunk.__init__" st_init (rC K) (rI K) cc cda fd := {
    T := oexB_ok h1
    init := He.eqO_ok h3
    tI := of_decide_eq_true h4
    fn := ⟨oc, od, kV, doc, pm, an, ct, osl, e1, lk⟩
    code := hcd
    file := hfile
    cell := hcell
    sup := He.eqO_ok h5
    tp := He.eqO_ok h6
    top := by decide +kernel
    subVE := of_decide_eq_true h7
    noPos := He.eqO_ok h8
    mroC := of_decide_eq_true h9 }
  refine ⟨⟨R.T, rI K, fd, R.init, R.tI, ok_init (txt := "unexpected text at position ") R rfl rfl rfl (by decide) (fun env => ⟨_, rfl⟩) msup mstr, ?_⟩, xfB_ok h10, R.noPos, excB_ok h11, of_decide_eq_true h12, of_decide_eq_true h13⟩
  subst e1
  exact Binds.all fun us hl => match us, hl with | [_, _], _ => rfl
end K63
namespace K63
open PySem PySem.Spec L2 DL
def asR (g : Addr → Option Obj) (n : Nat) : List Addr := cStatics :: He.asD g n
abbrev AlR : Type := He.AlD × Bool × FnR × List (Option (List (Option (Str × Int))))
def obsR (n : Nat) (g : Addr → Option Obj) : AlR := (He.obsD fa fn (He.frG g (asR g n)), exT (He.frG g (asR g n)) && exR (He.frG g (asR g n)), fnR (He.frG g (asR g n)), tabR (He.frG g (asR g n)))
def valR (w : World) : AlR := (He.valD fn, true, fnRv, tabV w)
structure SaysR (w : World) (K : PySem.W.Frag) : Prop where
  c : He.SaysD fa fn K
  t : exT K = true
  r : exR K = true
  f : fnR K = fnRv
  k : tabR K = tabV w
def hk : PySem.W.Hook where
  α := AlR
  obs := fun s => obsR 5 s.heap.get?
  val := fun w => valR w
  says := fun w h => ∃ K : PySem.W.Frag, K.In h ∧ SaysR w K
  of := fun w s e => by
    have e1 : He.obsD fa fn (He.frG s.heap.get? (asR s.heap.get? 5)) = He.valD fn := congrArg (fun z : AlR => z.1) e
    have e2 : (exT (He.frG s.heap.get? (asR s.heap.get? 5)) && exR (He.frG s.heap.get? (asR s.heap.get? 5))) = true := congrArg (fun z : AlR => z.2.1) e
    have e3 : fnR (He.frG s.heap.get? (asR s.heap.get? 5)) = fnRv := congrArg (fun z : AlR => z.2.2.1) e
    have e4 : tabR (He.frG s.heap.get? (asR s.heap.get? 5)) = tabV w := congrArg (fun z : AlR => z.2.2.2) e
    obtain ⟨h1, h2⟩ := He.ba e2
    exact ⟨_, He.frG_in, e1, h1, h2, e3, e4⟩
  keeps := fun _ _ _ ⟨K, hK, c⟩ k => ⟨K, PySem.W.Frag.In.keeps hK k, c⟩
abbrev R : PySem.W.OpenRow := PySem.W.OpenLaw.row PySem.Challenge.rw_chiplore_k63_written_definitions_read_ba
def ob (s : PySem.W.SharedT) : AlR := obsR 5 (HandSHeadRun.getT s)
theorem ob_eq (s : PySem.W.SharedT) : ob s = hk.obs s.abs := by
  have e : HandSHeadRun.getT s = s.abs.heap.get? := funext (HandSHeadRun.getT_eq s)
  unfold ob
  rw [e]
  rfl
def loose : List Str := ([("LINES" : Str), "MARKS", "line_of", "write_within", "write_claim", "write_definition", "line_starts", "chunks"] : List Str) ++ ([("ChiploreError" : Str), "RefusedChunk", "KEYWORDS", "LOWER", "WORD", "LONG_SIGNS", "SHORT_SIGNS", "read_word", "read_token"] : List Str) ++ ([("tokenize" : Str), "MOST_TOKENS", "MOST_OPEN", "Cursor", "MOST_DEPTH", "Parser", "depth_of", "parse"] : List Str) ++
  ([("_law_next" : Str), "_law_same", "_law_drawn", "_law_tree", "_law_read", "_law_pairs", "_law_joined", "_law_tokens", "_law_most_open"] : List Str)
theorem runF (w : World) : HandSHeadRun.RunEq R (PySem.W.view R.prog [41]) hk ob 14000 loose (w.withFollow "special-get-raises" false) := by
  intro os
  kernel_rfl
theorem runT (w : World) : HandSHeadRun.RunEq R (PySem.W.view R.prog [41]) hk ob 14000 loose (w.withFollow "special-get-raises" true) := by
  intro os
  kernel_rfl
theorem run (w : World) : HandSHeadRun.RunEq R (PySem.W.view R.prog [41]) hk ob 14000 loose w := PySem.W.byRow2 "special-get-raises" (P := fun w => HandSHeadRun.RunEq R (PySem.W.view R.prog [41]) hk ob 14000 loose w) runF runT w
def spLaw (K : PySem.W.Frag) : Sp := fun vs H Q _ => spM K m_law 1 vs H Q (fun _ _ _ => False)
theorem law_ok {w : World} {K : PySem.W.Frag} {h : Heap} {mg : Str → Option Value} {f : Addr} (X : K.In h) (G : h.Ns mainGlobals mg) (hf : mg ("law" : Str) = some (.ref f)) (c : SaysR w K) :
    ∃ fd : FuncData, (∀ (s : Shared) (v : Value), BindsTo s fd ⟨[v], []⟩ [("script", v)]) ∧ ∀ base : Heap, K.In base → base.Ns mainGlobals mg → FnOk PR w K mg base L2.CX0 105 f fd ["script"] (spLaw K) := by
  have msup : mg "super" = none := z_super X G c.c
  have mstr : mg "str" = none := z_str X G c.c
  obtain ⟨fd, F⟩ := z_law c.c
  have Fn : Fun K "law" "law" st_law (He.ga K "law") fd := He5.fun_of F
  have e := hf.symm.trans (z_glaw X G c.c)
  have ef : f = He.ga K "law" := by injection e with e; injection e
  subst ef
  have b := FunD.bindsA (ps := ["script"]) F fun _ _ _ _ _ _ us hl => match us, hl with | [_], _ => rfl
  refine ⟨fd, fun s v => b s [v] rfl, fun base KB GB => ?_⟩
  have Z : Zf PR w K mg base := zf X G c.c c.t c.k (xf_of c.r c.f msup mstr)
  have D := d_law Z Fn
  refine ⟨fun vs H Q E hs => D.many vs H Q _ hs, fun A outer s H args us vs Q E hr e0 hb r hs => codeAny_mono (D.goes A outer s H args us vs Q (fun _ _ _ => False) (Rm.of hr (by decide) (by decide)) e0 hb r hs) (fun r s' h => ?_)⟩
  cases r with
  | ok f =>
    cases f with
    | ret u => exact h
    | _ => exact h
  | error e =>
    obtain ⟨_, _, _, _, _, _, _, _, _, _, _, _, z⟩ := h
    exact z.elim
theorem law_pre {K : PySem.W.Frag} {H : Hp} {a : Addr} {ns : List Int} (hS : SqL K H a (ns.map V.int)) : spLaw K [.ref a] H (fun v _ => v = .bl true) fun _ _ _ => False := by
  refine ⟨fun b => if b = a then H a else none, fun _ => none, [.scr ns], fun d _ => d = .bl true, fun _ _ => False, ⟨fun b u q => ?_, fun b u q => by cases q⟩, ?_, rfl, ⟨ns, rfl, fun _ => rfl⟩, fun v H' F' S' d x sr r q => ?_, fun _ _ _ _ _ _ _ _ _ z => z.elim⟩
  · have q' : (if b = a then H a else none) = some u := q
    split at q'
    · rename_i e
      rw [e]; exact q'
    · cases q'
  · refine .cons ?_ .nil
    unfold RelD
    refine ⟨a, rfl, ?_⟩
    have ea : (fun b => if b = a then H a else none) a = H a := if_pos rfl
    rcases hS with (h | ⟨o, h⟩) | h
    · exact .inl (.inl (ea.trans h))
    · exact .inl (.inr ⟨o, ea.trans h⟩)
    · exact .inr h
  · subst q
    exact r.bl_e
end K63
open PySem PySem.W PySem.Calls PyProof.Rows
theorem PySem.Challenge.cw_chiplore_k63_written_definitions_read_ba_holds : PySem.Challenge.rw_chiplore_k63_written_definitions_read_ba.Holds := by
  w_on; o_law
  refine HandSHeadRun.head_any (r := OpenLaw.row PySem.Challenge.rw_chiplore_k63_written_definitions_read_ba) (q := view (OpenLaw.row PySem.Challenge.rw_chiplore_k63_written_definitions_read_ba).prog [41]) (H := K63.hk) (ob := K63.ob) (M := 14000) (loose := K63.loose) (d := HandSHeadRun.topDef (OpenLaw.row PySem.Challenge.rw_chiplore_k63_written_definitions_read_ba).prog 41) (kwd := []) K63.ob_eq
    (by kernel_rfl) (fun s => by kernel_rfl) K63.run (by kernel_rfl) (by kernel_rfl) (by kernel_rfl) (by rfl) (by first | assumption | decide +kernel) (by decide +kernel) ⟨rfl, rfl, rfl, rfl, rfl, by decide +kernel⟩ ?hw ?hc
  case hw => w_witness2
  case hc =>
    refine L2.walk_ofE (l := PySem.Challenge.rw_chiplore_k63_written_definitions_read_ba) (n := 63) (k := 105) (x := "script") (CX := L2.CX0) rfl (by decide) (by kernel_rfl) ⟨rfl, by decide, by decide⟩ ?F (fun _ _ _ _ z => z)
    intro w mg fa h Y G hmg0
    obtain ⟨K, KX, c⟩ := Y
    have hmg : mg ("law" : PySem.Str) = some (.ref fa) := by
      have e : (HandSHeadRun.topDef (OpenLaw.row PySem.Challenge.rw_chiplore_k63_written_definitions_read_ba).prog 41).name = ("law" : PySem.Str) := by kernel_rfl
      rw [← e]
      exact hmg0
    obtain ⟨fd, hb, hF⟩ := K63.law_ok KX G hmg c
    exact ⟨K, fd, K63.spLaw K, KX, hb, fun H a ns hl _ hS => K63.law_pre hS, hF⟩
