import PyProof.Rows.All
import Wide.All
import OpenK.AllK
import Wide.FinOn
import HandS.Conv
import HandS.Defaults
import HandS.DictTup
import HandS.ForMost
import HandS.Head0
import HandS.Head1
import HandS.Head2
import HandS.HeadEnd
import HandS.HeadHook1
import HandS.HeadHook2
import HandS.IsInst
import HandS.ListItems
import HandS.Rev
import HandS.RevTup
import HandS.SortOrd
import HandS.Style
import HandS.TupAny
import HandS.Wide
import HandS.Zip
import KE.GoesEnum
import KE.GoesZip
import KE.KDictDisplayH
import KE.KDictKeyed
import KE.KDictWalk
import KE.KEqNest
import KE.KItemsList
import KE.KStateDown
import KE.SortData
import PySem.Challenge.RW_aheadsums_k25_whole_lacings_of_three_and
section
set_option Elab.async false
set_option linter.all false
set_option maxRecDepth 100000
set_option maxHeartbeats 1000000
namespace DS
open PySem PySem.Spec PyProof.Rows L2

/-- plain data: what a value is, whatever its address -/
inductive D where
  | non | bl (b : Bool) | int (i : Int) | str (x : Str)
  | tup (xs : List D) | lst (xs : List D) | kl (xs : List D) | dct (its : List D) | ins (n : Str) (ns : List Str) (ds : List D)
  deriving Inhabited
structure RC where
  P : Program
  w : World
  K : PySem.W.Frag
  mg : Str → Option Value
abbrev rc (X : Cx) : RC := ⟨X.prog, X.w, X.K, X.mg⟩
mutual
def D.nk : D → Option NestedKey
  | .non => some .none
  | .int i => some (.num i)
  | .str x => some (.text x)
  | .tup xs => match D.nks xs with
    | some ks => some (.tup ks)
    | none => none
  | _ => none
def D.nks : List D → Option (List NestedKey)
  | [] => some []
  | d :: ds => match D.nk d, D.nks ds with
    | some k, some ks => some (k :: ks)
    | _, _ => none
end
abbrev Ent := NestedKey × Addr × V
def EntRel : Ent → NestedKey × Addr × Value → Prop := fun p q => p.1 = q.1 ∧ p.2.1 = q.2.1 ∧ RelV p.2.2 q.2.2
/-- the dict object alone, with its entries -/
def DctRaw (P : Program) (w : World) (a : Addr) (es : List Ent) (o : Obj) (h : Heap) : Prop :=
  ∃ ents ep xs, h.get? a = some o ∧ o.ExactDict ∧ o.data = .dict ents ep ∧ ents.toList = xs.map (entryOfKey (nestedKind P w)) ∧ Paired EntRel es xs
def dctO (P : Program) (w : World) (a : Addr) (es : List Ent) (o : Obj) : HO := .ext (DctRaw P w a es o)
/-- a dict at a, with these entries -/
structure DA (c : RC) (H : Hp) (a : Addr) (es : List Ent) : Prop where
  sys : (a == sysModules) = false
  at_ : ∃ o, H a = some (dctO c.P c.w a es o)
  nd : (es.map (·.1)).Nodup
  len : es.length ≤ sizeLine
mutual
def Rep (c : RC) (H : Hp) : D → V → Prop
  | .non, v => v = .non
  | .bl b, v => v = .bl b
  | .int i, v => v = .int i
  | .str x, v => v = .str x
  | .tup ds, v => ∃ a vs, v = .ref a ∧ SqT c.K H a vs ∧ RepL c H ds vs
  | .lst ds, v => ∃ a vs, v = .ref a ∧ H a = some (.lst vs) ∧ RepL c H ds vs
  | .kl ds, v => ∃ a vs, v = .ref a ∧ SqL c.K H a vs ∧ RepL c H ds vs
  | .dct its, v => ∃ a es, v = .ref a ∧ DA c H a es ∧ RepI c H its es
  | .ins n ns ds, v => ∃ a C dx vs, v = .ref a ∧ c.mg n = some (.ref C) ∧ H a = some (.ins C dx (ns.zip vs)) ∧ ns.length = vs.length ∧ RepL c H ds vs
def RepL (c : RC) (H : Hp) : List D → List V → Prop
  | [], vs => vs = []
  | d :: ds, vs => ∃ v r, vs = v :: r ∧ Rep c H d v ∧ RepL c H ds r
def RepI (c : RC) (H : Hp) : List D → List Ent → Prop
  | [], es => es = []
  | .tup [kd, vd] :: r, es => ∃ k b x r', es = (k, b, x) :: r' ∧ D.nk kd = some k ∧ k.depth ≤ 8 ∧ Rep c H kd (.ref b) ∧ Rep c H vd x ∧ RepI c H r r'
  | _ :: _, _ => False
end
theorem Same.refl {H : Hp} : Same H H := fun _ _ e => e
theorem Same.tr {H1 H2 H3 : Hp} (a : Same H1 H2) (b : Same H2 H3) : Same H1 H3 := fun p o e => b p o (a p o e)
theorem Same.nn {G H : Hp} (s : Same G H) {p : Addr} (h : H p = .none) : G p = .none := by
  cases e : G p with
  | none => rfl
  | some o => rw [s p o e] at h; cases h
theorem same_upd {H : Hp} {p : Addr} {o : HO} (h : H p = none) : Same H (upd H p o) := fun b u e => by
  rw [upd_ne (ne_of_none e h)]; exact e
theorem SqT.mono {K : PySem.W.Frag} {G H : Hp} {a : Addr} {vs : List V} (h : SqT K G a vs) (s : Same G H) : SqT K H a vs := by
  rcases h with (h | ⟨o, h⟩) | h
  · exact .inl (.inl (s _ _ h))
  · exact .inl (.inr ⟨o, s _ _ h⟩)
  · exact .inr h
theorem SqL.mono {K : PySem.W.Frag} {G H : Hp} {a : Addr} {vs : List V} (h : SqL K G a vs) (s : Same G H) : SqL K H a vs := by
  rcases h with (h | ⟨o, h⟩) | h
  · exact .inl (.inl (s _ _ h))
  · exact .inl (.inr ⟨o, s _ _ h⟩)
  · exact .inr h
section
variable {c : RC} {G H : Hp}
theorem DA.mono {a : Addr} {es : List Ent} (h : DA c G a es) (s : Same G H) : DA c H a es := ⟨h.sys, h.at_.imp fun _ e => s _ _ e, h.nd, h.len⟩
mutual
theorem Rep.mono (s : Same G H) : ∀ (d : D) (v : V), Rep c G d v → Rep c H d v
  | .non, _, h => h
  | .bl _, _, h => h
  | .int _, _, h => h
  | .str _, _, h => h
  | .tup ds, v, h => by
    simp only [Rep] at h ⊢
    obtain ⟨a, vs, e, q, r⟩ := h
    exact ⟨a, vs, e, SqT.mono q s, RepL.mono s ds vs r⟩
  | .lst ds, v, h => by
    simp only [Rep] at h ⊢
    obtain ⟨a, vs, e, q, r⟩ := h
    exact ⟨a, vs, e, s _ _ q, RepL.mono s ds vs r⟩
  | .kl ds, v, h => by
    simp only [Rep] at h ⊢
    obtain ⟨a, vs, e, q, r⟩ := h
    exact ⟨a, vs, e, SqL.mono q s, RepL.mono s ds vs r⟩
  | .dct its, v, h => by
    simp only [Rep] at h ⊢
    obtain ⟨a, es, e, q, r⟩ := h
    exact ⟨a, es, e, q.mono s, RepI.mono s its es r⟩
  | .ins n ns ds, v, h => by
    simp only [Rep] at h ⊢
    obtain ⟨a, C, dx, vs, e, m, q, l, r⟩ := h
    exact ⟨a, C, dx, vs, e, m, s _ _ q, l, RepL.mono s ds vs r⟩
theorem RepL.mono (s : Same G H) : ∀ (ds : List D) (vs : List V), RepL c G ds vs → RepL c H ds vs
  | [], _, h => h
  | d :: ds, vs, h => by
    simp only [RepL] at h ⊢
    obtain ⟨v, r, e, h1, h2⟩ := h
    exact ⟨v, r, e, Rep.mono s d v h1, RepL.mono s ds r h2⟩
theorem RepI.mono (s : Same G H) : ∀ (its : List D) (es : List Ent), RepI c G its es → RepI c H its es
  | [], _, h => h
  | .tup [kd, vd] :: r, es, h => by
    simp only [RepI] at h ⊢
    obtain ⟨k, b, x, r', e, h1, h2, h3, h4, h5⟩ := h
    exact ⟨k, b, x, r', e, h1, h2, Rep.mono s kd _ h3, Rep.mono s vd _ h4, RepI.mono s r r' h5⟩
  | .non :: _, _, h => by simp [RepI] at h
  | .bl _ :: _, _, h => by simp [RepI] at h
  | .int _ :: _, _, h => by simp [RepI] at h
  | .str _ :: _, _, h => by simp [RepI] at h
  | .lst _ :: _, _, h => by simp [RepI] at h
  | .kl _ :: _, _, h => by simp [RepI] at h
  | .dct _ :: _, _, h => by simp [RepI] at h
  | .ins _ _ _ :: _, _, h => by simp [RepI] at h
  | .tup [] :: _, _, h => by simp [RepI] at h
  | .tup [_] :: _, _, h => by simp [RepI] at h
  | .tup (_ :: _ :: _ :: _) :: _, _, h => by simp [RepI] at h
end
end
end DS
end

section
set_option Elab.async false
set_option linter.all false
set_option maxRecDepth 100000
set_option maxHeartbeats 1000000
namespace DS
open PySem PySem.Spec PyProof.Rows L2
section
variable {c : RC} {G H : Hp}
theorem RepL.iff : ∀ {ds : List D} {vs : List V}, RepL c H ds vs ↔ (vs.length = ds.length ∧ ∀ (i : Nat) d v, ds[i]? = some d → vs[i]? = some v → Rep c H d v)
  | [], vs => by
    simp only [RepL]
    constructor
    · rintro rfl; exact ⟨rfl, fun i d v h => by simp at h⟩
    · rintro ⟨h, _⟩; exact List.eq_nil_of_length_eq_zero h
  | d :: ds, vs => by
    simp only [RepL]
    constructor
    · rintro ⟨v, r, rfl, h1, h2⟩
      obtain ⟨l, q⟩ := RepL.iff.mp h2
      refine ⟨by simp [l], fun i d' v' e1 e2 => ?_⟩
      cases i with
      | zero =>
        simp only [List.getElem?_cons_zero, Option.some.injEq] at e1 e2
        subst e1 e2; exact h1
      | succ i => exact q i d' v' (by simpa using e1) (by simpa using e2)
    · rintro ⟨l, q⟩
      match vs, l, q with
      | v :: r, l, q =>
        exact ⟨v, r, rfl, q 0 d v rfl rfl, RepL.iff.mpr ⟨by simpa using l, fun i d' v' e1 e2 => q (i + 1) d' v' (by simpa using e1) (by simpa using e2)⟩⟩
theorem RepL.nil : RepL c H [] [] := by simp [RepL]
theorem RepL.cons {d : D} {v : V} {ds : List D} {vs : List V} (h : Rep c H d v) (t : RepL c H ds vs) : RepL c H (d :: ds) (v :: vs) := by
  simp only [RepL]; exact ⟨v, vs, rfl, h, t⟩
theorem RepL.uncons {d : D} {ds : List D} {vs : List V} (h : RepL c H (d :: ds) vs) : ∃ v r, vs = v :: r ∧ Rep c H d v ∧ RepL c H ds r := by
  simpa only [RepL] using h
theorem RepL.length {ds : List D} {vs : List V} (h : RepL c H ds vs) : vs.length = ds.length := (RepL.iff.mp h).1
theorem RepL.get {ds : List D} {vs : List V} (h : RepL c H ds vs) {i : Nat} {d : D} (e : ds[i]? = some d) : ∃ v, vs[i]? = some v ∧ Rep c H d v := by
  obtain ⟨l, q⟩ := RepL.iff.mp h
  have hi : i < vs.length := by rw [l]; exact (List.getElem?_eq_some_iff.mp e).1
  exact ⟨vs[i], by simp [hi], q i d _ e (by simp [hi])⟩
theorem RepL.get' {ds : List D} {vs : List V} (h : RepL c H ds vs) {i : Nat} {v : V} (e : vs[i]? = some v) : ∃ d, ds[i]? = some d ∧ Rep c H d v := by
  obtain ⟨l, q⟩ := RepL.iff.mp h
  have hi : i < ds.length := by rw [← l]; exact (List.getElem?_eq_some_iff.mp e).1
  exact ⟨ds[i], by simp [hi], q i _ v (by simp [hi]) e⟩
theorem RepL.append : ∀ {ds es : List D} {vs us : List V}, RepL c H ds vs → RepL c H es us → RepL c H (ds ++ es) (vs ++ us)
  | [], es, vs, us, h, k => by
    simp only [RepL] at h; subst h; exact k
  | d :: ds, es, vs, us, h, k => by
    obtain ⟨v, r, rfl, h1, h2⟩ := h.uncons
    exact RepL.cons h1 (RepL.append h2 k)
theorem RepL.one {d : D} {v : V} (h : Rep c H d v) : RepL c H [d] [v] := RepL.cons h RepL.nil
theorem RepL.set {ds : List D} {vs : List V} (h : RepL c H ds vs) {d : D} {v : V} (r : Rep c H d v) (i : Nat) : RepL c H (ds.set i d) (vs.set i v) := by
  obtain ⟨l, q⟩ := RepL.iff.mp h
  refine RepL.iff.mpr ⟨by simp [l], fun j d' v' e1 e2 => ?_⟩
  rw [List.getElem?_set] at e1 e2
  by_cases hj : i = j
  · subst hj
    simp only [if_true] at e1 e2
    split at e1
    · split at e2
      · cases e1; cases e2; exact r
      · cases e2
    · cases e1
  · simp only [if_neg hj] at e1 e2
    exact q j d' v' e1 e2
theorem RepL.take {ds : List D} {vs : List V} (h : RepL c H ds vs) (n : Nat) : RepL c H (ds.take n) (vs.take n) := by
  obtain ⟨l, q⟩ := RepL.iff.mp h
  refine RepL.iff.mpr ⟨by simp [l], fun j d' v' e1 e2 => ?_⟩
  rw [List.getElem?_take] at e1 e2
  split at e1
  · rename_i hj; rw [if_pos hj] at e2; exact q j d' v' e1 e2
  · cases e1
theorem RepL.drop {ds : List D} {vs : List V} (h : RepL c H ds vs) (n : Nat) : RepL c H (ds.drop n) (vs.drop n) := by
  obtain ⟨l, q⟩ := RepL.iff.mp h
  refine RepL.iff.mpr ⟨by simp [l], fun j d' v' e1 e2 => ?_⟩
  rw [List.getElem?_drop] at e1 e2
  exact q _ d' v' e1 e2
theorem RepL.reverse : ∀ {ds : List D} {vs : List V}, RepL c H ds vs → RepL c H ds.reverse vs.reverse
  | [], vs, h => by simp only [RepL] at h; subst h; exact RepL.nil
  | d :: ds, vs, h => by
    obtain ⟨v, r, rfl, h1, h2⟩ := h.uncons
    rw [List.reverse_cons, List.reverse_cons]
    exact RepL.append (RepL.reverse h2) (RepL.one h1)
theorem RepL.replicate {d : D} {v : V} (h : Rep c H d v) (n : Nat) : RepL c H (List.replicate n d) (List.replicate n v) := by
  induction n with
  | zero => exact RepL.nil
  | succ n ih => rw [List.replicate_succ, List.replicate_succ]; exact RepL.cons h ih
end

/-- a slot's value: frozen data, or an object of its own that may still be changed -/
inductive DV where
  | fz (d : D) | ow (d : D)
  deriving Inhabited
def DV.d : DV → D
  | .fz d => d
  | .ow d => d
/-- the object at p alone: its items stand frozen in G -/
def RepO (c : RC) (G H : Hp) : D → Addr → Prop
  | .lst ds, p => ∃ vs, H p = some (.lst vs) ∧ RepL c G ds vs
  | .dct its, p => ∃ es, DA c H p es ∧ RepI c G its es
  | .ins n ns ds, p => ∃ C dx vs, c.mg n = some (.ref C) ∧ H p = some (.ins C dx (ns.zip vs)) ∧ ns.length = vs.length ∧ RepL c G ds vs
  | _, _ => False
def RepV (c : RC) (G T H : Hp) : DV → V → Prop
  | .fz d, v => Rep c G d v
  | .ow d, v => ∃ p, v = .ref p ∧ G p = none ∧ T p = none ∧ RepO c G H d p
abbrev DEnv := List (Option DV)
/-- no owned slot holds v -/
def Fresh (sd : DEnv) (σ : L2.St) (v : V) : Prop := ∀ (i : Nat) (d : D), sd[i]? = some (some (DV.ow d)) → σ[i]? ≠ some (some v)
def FreshV (sd : DEnv) (σ : L2.St) : DV → V → Prop
  | .fz _, _ => True
  | .ow _, v => Fresh sd σ v
structure StOk (c : RC) (G T : Hp) (sd : DEnv) (σ : L2.St) (H : Hp) : Prop where
  same : Same G H
  sameT : Same T H
  apart : ∀ (a : Addr) (o : HO), T a = some o → G a = none
  len : sd.length = σ.length
  slots : ∀ (i : Nat) (dv : DV), sd[i]? = some (some dv) → ∃ v, σ[i]? = some (some v) ∧ RepV c G T H dv v
  inj : ∀ (i j : Nat) (d e : D) (v : V), sd[i]? = some (some (DV.ow d)) → sd[j]? = some (some (DV.ow e)) → σ[i]? = some (some v) → σ[j]? = some (some v) → i = j
section
variable {c : RC} {G G' T H H' : Hp} {sd sd' : DEnv} {σ : L2.St}
theorem RepO.ex {d : D} {p : Addr} (h : RepO c G H d p) : ∃ o, H p = some o := by
  cases d with
  | lst ds => obtain ⟨vs, e, _⟩ := h; exact ⟨_, e⟩
  | dct its => obtain ⟨es, e, _⟩ := h; exact e.at_.elim fun _ e => ⟨_, e⟩
  | ins n ns ds => obtain ⟨C, dx, vs, _, e, _⟩ := h; exact ⟨_, e⟩
  | _ => exact h.elim
theorem RepO.mono {d : D} {p : Addr} (h : RepO c G H d p) (s : Same G G') (e : H' p = H p) : RepO c G' H' d p := by
  cases d with
  | lst ds => obtain ⟨vs, e1, r⟩ := h; exact ⟨vs, by rw [e, e1], r.mono s⟩
  | dct its => obtain ⟨es, e1, r⟩ := h; exact ⟨es, ⟨e1.sys, by rw [e]; exact e1.at_, e1.nd, e1.len⟩, r.mono s⟩
  | ins n ns ds => obtain ⟨C, dx, vs, m, e1, l, r⟩ := h; exact ⟨C, dx, vs, m, by rw [e, e1], l, r.mono s⟩
  | _ => exact h.elim
/-- an owned object, frozen -/
theorem RepO.freeze {d : D} {p : Addr} {o : HO} (h : RepO c G H d p) (ho : H p = some o) (hp : G p = none) : Rep c (upd G p o) d (.ref p) := by
  have s : Same G (upd G p o) := same_upd hp
  cases d with
  | lst ds =>
    obtain ⟨vs, e1, r⟩ := h
    rw [ho] at e1; cases e1
    simp only [Rep]
    exact ⟨p, vs, rfl, upd_same, r.mono s⟩
  | dct its =>
    obtain ⟨es, e1, r⟩ := h
    obtain ⟨ob, e2⟩ := e1.at_
    rw [ho] at e2; cases e2
    simp only [Rep]
    exact ⟨p, es, rfl, ⟨e1.sys, ⟨ob, upd_same⟩, e1.nd, e1.len⟩, r.mono s⟩
  | ins n ns ds =>
    obtain ⟨C, dx, vs, m, e1, l, r⟩ := h
    rw [ho] at e1; cases e1
    simp only [Rep]
    exact ⟨p, C, dx, vs, rfl, m, upd_same, l, r.mono s⟩
  | _ => exact h.elim
theorem StOk.slot (S : StOk c G T sd σ H) {i : Nat} {dv : DV} (h : sd[i]? = some (some dv)) : ∃ v, σ[i]? = some (some v) ∧ RepV c G T H dv v := S.slots i dv h
theorem RepV.isRef {d : D} {v : V} (h : RepV c G T H (.ow d) v) : ∃ p, v = .ref p ∧ G p = none ∧ T p = none ∧ RepO c G H d p := h
/-- the object at p (new, or owned and nobody's slot) becomes frozen -/
theorem StOk.ice (S : StOk c G T sd σ H) {p : Addr} {o : HO} (ho : H p = some o) (hG : G p = none) (hT : T p = none) (hf : Fresh sd σ (.ref p)) : StOk c (upd G p o) T sd σ H where
  same := fun b u e => by
    by_cases hb : b = p
    · subst hb; rw [upd_same] at e; cases e; exact ho
    · rw [upd_ne hb] at e; exact S.same b u e
  sameT := S.sameT
  apart := fun a u e => by
    rw [upd_ne (ne_of_none e hT)]; exact S.apart a u e
  len := S.len
  slots := fun i dv e => by
    obtain ⟨v, e1, r⟩ := S.slots i dv e
    refine ⟨v, e1, ?_⟩
    cases dv with
    | fz d => exact r.mono (same_upd hG)
    | ow d =>
      obtain ⟨q, rfl, a1, a2, a3⟩ := r
      have ne : q ≠ p := fun z => hf i d e (by rw [e1, z])
      exact ⟨q, rfl, by rw [upd_ne ne]; exact a1, a2, a3.mono (same_upd hG) rfl⟩
  inj := S.inj
/-- a new object stands beside -/
theorem StOk.more (S : StOk c G T sd σ H) {p : Addr} {o : HO} (hp : H p = none) : StOk c G T sd σ (upd H p o) where
  same := Same.tr S.same (same_upd hp)
  sameT := Same.tr S.sameT (same_upd hp)
  apart := S.apart
  len := S.len
  slots := fun i dv e => by
    obtain ⟨v, e1, r⟩ := S.slots i dv e
    refine ⟨v, e1, ?_⟩
    cases dv with
    | fz d => exact r
    | ow d =>
      obtain ⟨q, rfl, a1, a2, a3⟩ := r
      obtain ⟨o', ho⟩ := a3.ex
      exact ⟨q, rfl, a1, a2, a3.mono Same.refl (upd_ne (ne_of_none ho hp))⟩
  inj := S.inj
theorem StOk.fresh_new (S : StOk c G T sd σ H) {p : Addr} (hp : H p = none) : Fresh sd σ (.ref p) := fun i d e e1 => by
  obtain ⟨v, e2, r⟩ := S.slots i _ e
  rw [e1] at e2; cases e2
  obtain ⟨q, e3, _, _, a3⟩ := r
  cases e3
  obtain ⟨o, ho⟩ := a3.ex
  rw [hp] at ho; cases ho
/-- a new frozen object -/
theorem StOk.laid (S : StOk c G T sd σ H) {p : Addr} {o : HO} (hp : H p = none) : StOk c (upd G p o) T sd σ (upd H p o) :=
  (S.more hp).ice upd_same (Same.nn S.same hp) (Same.nn S.sameT hp) (S.fresh_new hp)
theorem StOk.gnone (S : StOk c G T sd σ H) {p : Addr} (hp : H p = none) : G p = none := Same.nn S.same hp
/-- an owned slot is frozen -/
theorem StOk.freeze (S : StOk c G T sd σ H) {i : Nat} {d : D} (h : sd[i]? = some (some (.ow d))) : ∃ p G', σ[i]? = some (some (.ref p)) ∧ Same G G' ∧ StOk c G' T (sd.set i (some (.fz d))) σ H ∧ Rep c G' d (.ref p) := by
  obtain ⟨v, e1, p, rfl, a1, a2, a3⟩ := S.slots i _ h
  obtain ⟨o, ho⟩ := a3.ex
  have s : Same G (upd G p o) := same_upd a1
  refine ⟨p, upd G p o, e1, s, ?_, a3.freeze ho a1⟩
  refine ⟨fun b u e => ?_, S.sameT, fun a u e => ?_, by rw [List.length_set]; exact S.len, fun j dv e => ?_, fun j k d1 d2 v e1' e2' => ?_⟩
  · by_cases hb : b = p
    · subst hb; rw [upd_same] at e; cases e; exact ho
    · rw [upd_ne hb] at e; exact S.same b u e
  · rw [upd_ne (ne_of_none e a2)]; exact S.apart a u e
  · rw [List.getElem?_set] at e
    by_cases hj : i = j
    · subst hj
      rw [if_pos rfl] at e
      split at e
      · cases e; exact ⟨_, e1, a3.freeze ho a1⟩
      · cases e
    · rw [if_neg hj] at e
      obtain ⟨v, e2, r⟩ := S.slots j dv e
      refine ⟨v, e2, ?_⟩
      cases dv with
      | fz d => exact r.mono s
      | ow d' =>
        obtain ⟨q, rfl, b1, b2, b3⟩ := r
        have ne : q ≠ p := fun z => hj (S.inj i j d d' (.ref p) h e e1 (by rw [e2, z]))
        exact ⟨q, rfl, by rw [upd_ne ne]; exact b1, b2, b3.mono s rfl⟩
  · rw [List.getElem?_set] at e1' e2'
    intro z1 z2
    by_cases hj : i = j
    · subst hj
      rw [if_pos rfl] at e1'
      split at e1' <;> cases e1'
    · rw [if_neg hj] at e1'
      by_cases hk : i = k
      · subst hk
        rw [if_pos rfl] at e2'
        split at e2' <;> cases e2'
      · rw [if_neg hk] at e2'
        exact S.inj j k d1 d2 v e1' e2' z1 z2
/-- the object of an owned slot is changed -/
theorem StOk.write (S : StOk c G T sd σ H) {i : Nat} {d d' : D} {p : Addr} {o : HO} (h : sd[i]? = some (some (.ow d))) (hp : σ[i]? = some (some (.ref p))) (r : RepO c G (upd H p o) d' p) :
    StOk c G T (sd.set i (some (.ow d'))) σ (upd H p o) := by
  obtain ⟨v, e1, p', rfl, a1, a2, a3⟩ := S.slots i _ h
  rw [hp] at e1; cases e1
  refine ⟨fun b u e => ?_, fun b u e => ?_, S.apart, by rw [List.length_set]; exact S.len, fun j dv e => ?_, fun j k d1 d2 v e1' e2' z1 z2 => ?_⟩
  · rw [upd_ne (ne_of_none e a1)]; exact S.same b u e
  · rw [upd_ne (ne_of_none e a2)]; exact S.sameT b u e
  · rw [List.getElem?_set] at e
    by_cases hj : i = j
    · subst hj
      rw [if_pos rfl] at e
      split at e
      · cases e; exact ⟨_, hp, p, rfl, a1, a2, r⟩
      · cases e
    · rw [if_neg hj] at e
      obtain ⟨v, e2, r⟩ := S.slots j dv e
      refine ⟨v, e2, ?_⟩
      cases dv with
      | fz d => exact r
      | ow d2 =>
        obtain ⟨q, rfl, b1, b2, b3⟩ := r
        have ne : q ≠ p := fun z => hj (S.inj i j d d2 (.ref p) h e hp (by rw [e2, z]))
        exact ⟨q, rfl, b1, b2, b3.mono Same.refl (upd_ne ne)⟩
  · have back : ∀ {j : Nat} {d1 : D}, (sd.set i (some (DV.ow d')))[j]? = some (some (.ow d1)) → ∃ d0, sd[j]? = some (some (.ow d0)) := fun {j d1} e => by
      rw [List.getElem?_set] at e
      by_cases hj : i = j
      · subst hj; exact ⟨d, h⟩
      · rw [if_neg hj] at e; exact ⟨d1, e⟩
    obtain ⟨_, q1⟩ := back e1'
    obtain ⟨_, q2⟩ := back e2'
    exact S.inj j k _ _ v q1 q2 z1 z2
/-- a slot is given a value -/
theorem StOk.store (S : StOk c G T sd σ H) {i : Nat} {dv : DV} {v : V} (r : RepV c G T H dv v) (f : FreshV sd σ dv v) : StOk c G T (sd.set i (some dv)) (σ.set i (some v)) H := by
  refine ⟨S.same, S.sameT, S.apart, by simp [S.len], fun j dw e => ?_, fun j k d1 d2 u e1 e2 z1 z2 => ?_⟩
  · rw [List.getElem?_set] at e ⊢
    by_cases hj : i = j
    · subst hj
      rw [if_pos rfl] at e ⊢
      split at e
      · rename_i hl
        cases e
        rw [if_pos (by rw [← S.len]; exact hl)]
        exact ⟨v, rfl, r⟩
      · cases e
    · rw [if_neg hj] at e ⊢
      exact S.slots j dw e
  · rw [List.getElem?_set] at e1 e2 z1 z2
    by_cases hj : i = j
    · by_cases hk : i = k
      · rw [← hj, ← hk]
      · subst hj
        rw [if_pos rfl] at e1 z1
        rw [if_neg hk] at e2 z2
        split at e1
        · cases e1
          split at z1
          · cases z1; exact (f k d2 e2 z2).elim
          · cases z1
        · cases e1
    · rw [if_neg hj] at e1 z1
      by_cases hk : i = k
      · subst hk
        rw [if_pos rfl] at e2 z2
        split at e2
        · cases e2
          split at z2
          · cases z2; exact (f j d1 e1 z1).elim
          · cases z2
        · cases e2
      · rw [if_neg hk] at e2 z2
        exact S.inj j k d1 d2 u e1 e2 z1 z2
end
end DS
end

section
set_option Elab.async false
set_option linter.all false
set_option maxRecDepth 100000
set_option maxHeartbeats 1000000
namespace DS
open PySem PySem.Spec PyProof.Rows L2

/-! ### weaker readings -/
section
variable {X : Cx}
theorem PEi {e : Expr} {t t' : TE} (h : PE X e t) (i : ∀ σ H Q, t' σ H Q → t σ H Q) : PE X e t' := ⟨fun pins s σ H Q I q => h.run pins s σ H Q I (i σ H Q q)⟩
theorem PTi {e : Expr} {t t' : TT} (h : PT X e t) (i : ∀ σ H Q, t' σ H Q → t σ H Q) : PT X e t' := ⟨fun pins s σ H Q I q => h.run pins s σ H Q I (i σ H Q q)⟩
theorem PWi {e : Expr} {t t' : TT} (h : PW X e t) (i : ∀ σ H Q, t' σ H Q → t σ H Q) : PW X e t' := ⟨fun w pins s σ H Q I q => h.run w pins s σ H Q I (i σ H Q q)⟩
theorem PSi {e : Stmt} {t t' : TS} (h : PS X e t) (i : ∀ D σ H, t' D σ H → t D σ H) : PS X e t' := ⟨fun pins s σ H D I q => h.run pins s σ H D I (i D σ H q)⟩
theorem PSsi {e : List Stmt} {t t' : TS} (h : PSs X e t) (i : ∀ D σ H, t' D σ H → t D σ H) : PSs X e t' := ⟨fun pins s σ H D I q => h.run pins s σ H D I (i D σ H q)⟩
theorem PAi {e : List Expr} {t t' : TA} (h : PA X e t) (i : ∀ σ H Q, t' σ H Q → t σ H Q) : PA X e t' := ⟨fun pos pins s σ H Q I q => h.run pos pins s σ H Q I (i σ H Q q)⟩
theorem PGi {e : Expr} {t t' : TG} (h : PG X e t) (i : ∀ v σ H Q, t' v σ H Q → t v σ H Q) : PG X e t' := ⟨fun pins s σ H v u Q I r q => h.run pins s σ H v u Q I r (i v σ H Q q)⟩
theorem PGsi {e : List Expr} {t t' : TGs} (h : PGs X e t) (i : ∀ v σ H Q, t' v σ H Q → t v σ H Q) : PGs X e t' := ⟨fun pins s σ H v u Q I r q => h.run pins s σ H v u Q I r (i v σ H Q q)⟩
theorem PIi {tg e : Expr} {t t' : TI} (h : PI X tg e t) (i : ∀ σ H R, t' σ H R → t σ H R) : PI X tg e t' := ⟨fun pins s σ H R I q => h.run pins s σ H R I (i σ H R q)⟩
theorem OpRi {f : Value → Value → Sem Value} {r r' : R2} (h : OpR X f r) (i : ∀ x y H Q, r' x y H Q → r x y H Q) : OpR X f r' := fun pins s σ H x y v u Q I rx ry q => h pins s σ H x y v u Q I rx ry (i x y H Q q)
theorem IxRi {r r' : R2} (h : IxR X r) (i : ∀ x y H Q, r' x y H Q → r x y H Q) : IxR X r' := fun a b pins s σ H x y v u Q I rx ry q => h a b pins s σ H x y v u Q I rx ry (i x y H Q q)
theorem CallRi {f : Value} {r r' : List V → Hp → VK → Prop} (h : CallR X f r) (i : ∀ xs H Q, r' xs H Q → r xs H Q) : CallR X f r' := fun pins s σ H xs us Q I rx q => h pins s σ H xs us Q I rx (i xs H Q q)
theorem MtRi {id : String} {r r' : V → List V → Hp → VK → Prop} (h : MtR X id r) (i : ∀ x xs H Q, r' x xs H Q → r x xs H Q) : MtR X id r' := fun pins s σ H x xs v us Q I rx rs q => h pins s σ H x xs v us Q I rx rs (i x xs H Q q)
end

/-! ### denotations and what they mean -/
inductive Out where
  | nx | bk | ct | rt (r : DV)
abbrev TF := DEnv → Option (D × DEnv)
abbrev TV := DEnv → Option (DV × DEnv)
abbrev TB := DEnv → Option (Bool × DEnv)
abbrev TM := DEnv → Option (Out × DEnv)
abbrev TW := DEnv → Option (List D × DEnv)

/-- a step of the state: the heap has grown, the slots are told anew -/
structure Go (c : RC) (G T : Hp) (sd' : DEnv) (σ : L2.St) (G' H' : Hp) : Prop where
  same : Same G G'
  ok : StOk c G' T sd' σ H'
def liftF (c : RC) (t : TF) : TE := fun σ H Q => ∃ G T sd d sd', StOk c G T sd σ H ∧ t sd = some (d, sd') ∧ ∀ v G' H', Same G G' → StOk c G' T sd' σ H' → Rep c G' d v → Q v H'
def liftV (c : RC) (t : TV) : TE := fun σ H Q => ∃ G T sd r sd', StOk c G T sd σ H ∧ t sd = some (r, sd') ∧ ∀ v G' H', Same G G' → StOk c G' T sd' σ H' → RepV c G' T H' r v → FreshV sd' σ r v → Q v H'
def liftT (c : RC) (t : TB) : TT := fun σ H Q => ∃ G T sd b sd', StOk c G T sd σ H ∧ t sd = some (b, sd') ∧ ∀ G' H', Same G G' → StOk c G' T sd' σ H' → Q b H'
def EndK (c : RC) (G' T : Hp) (σ' : L2.St) (H' : Hp) (sd' : DEnv) (E : Ends) : Out → Prop
  | .nx => E.nx σ' H'
  | .bk => E.bk σ' H'
  | .ct => E.ct σ' H'
  | .rt r => ∀ v, RepV c G' T H' r v → FreshV sd' σ' r v → E.rt v H'
def Fix (fx : List Nat) (σ σ' : L2.St) : Prop := (∀ i, i ∈ fx → σ'[i]? = σ[i]?) ∧ σ'.length = σ.length
theorem Fix.refl {fx : List Nat} {σ : L2.St} : Fix fx σ σ := ⟨fun _ _ => rfl, rfl⟩
theorem Fix.tr {fx : List Nat} {a b d : L2.St} (h : Fix fx a b) (k : Fix fx b d) : Fix fx a d := ⟨fun i hi => (k.1 i hi).trans (h.1 i hi), k.2.trans h.2⟩
def liftS (c : RC) (fx : List Nat) (t : TM) : TS := fun E σ H => ∃ G T sd o sd', StOk c G T sd σ H ∧ t sd = some (o, sd') ∧ ∀ σ' G' H', Same G G' → Fix fx σ σ' → StOk c G' T sd' σ' H' → EndK c G' T σ' H' sd' E o
/-- a target of frozen data -/
abbrev BG := D → DEnv → Option DEnv
def liftG (c : RC) (fx : List Nat) (b : BG) : TG := fun v σ H Q => ∃ G T sd d sd', StOk c G T sd σ H ∧ Rep c G d v ∧ b d sd = some sd' ∧ ∀ σ' G' H', Same G G' → Fix fx σ σ' → StOk c G' T sd' σ' H' → Q σ' H'
abbrev BGs := List D → DEnv → Option DEnv
def liftGs (c : RC) (fx : List Nat) (b : BGs) : TGs := fun vs σ H Q => ∃ G T sd ds sd', StOk c G T sd σ H ∧ RepL c G ds vs ∧ b ds sd = some sd' ∧ ∀ σ' G' H', Same G G' → Fix fx σ σ' → StOk c G' T sd' σ' H' → Q σ' H'
/-- all of H' beyond H is new and frozen in G' -/
def Grow (G H G' H' : Hp) : Prop := ∀ a, (G' a = G a ∧ H' a = H a) ∨ (H a = none ∧ ∃ o, H' a = some o ∧ (G' a = none ∨ G' a = some o))
/-- J walks the items xs while G stands -/
def Wlk (c : RC) (J : It) (G : Hp) (xs : List D) : Prop := ∀ (i : Nat) (G1 H : Hp), Same G G1 → Same G1 H → (∀ x, xs[i]? = some x → J.go i H ∧ ∀ v H', J.yld i H v H' → ∃ G2, Same G1 G2 ∧ Grow G1 H G2 H' ∧ Rep c G2 x v) ∧ (xs.length ≤ i → J.stop i H)
def liftI (c : RC) (t : TW) : TI := fun σ H R => ∃ G T sd xs sd', StOk c G T sd σ H ∧ t sd = some (xs, sd') ∧ ∀ J G' H', Same G G' → StOk c G' T sd' σ H' → Wlk c J G' xs → R J H'
/-- an argument: data, or an owned thing that is handed in, or the thing of a slot (whatever it is then) -/
inductive AV where
  | v (r : DV) | s (i : Nat)
abbrev TAr := DEnv → Option (List AV × DEnv)

abbrev DF (X : Cx) (e : Expr) (t : TF) : Prop := PE X e (liftF (rc X) t)
abbrev DVE (X : Cx) (e : Expr) (t : TV) : Prop := PE X e (liftV (rc X) t)
abbrev DT (X : Cx) (e : Expr) (t : TB) : Prop := PT X e (liftT (rc X) t)
abbrev DW (X : Cx) (e : Expr) (t : TB) : Prop := PW X e (liftT (rc X) t)
abbrev DS' (X : Cx) (fx : List Nat) (st : Stmt) (t : TM) : Prop := PS X st (liftS (rc X) fx t)
abbrev DSs (X : Cx) (fx : List Nat) (sts : List Stmt) (t : TM) : Prop := PSs X sts (liftS (rc X) fx t)
abbrev DG (X : Cx) (fx : List Nat) (e : Expr) (b : BG) : Prop := PG X e (liftG (rc X) fx b)
abbrev DGs (X : Cx) (fx : List Nat) (es : List Expr) (b : BGs) : Prop := PGs X es (liftGs (rc X) fx b)
abbrev DI (X : Cx) (tg e : Expr) (t : TW) : Prop := PI X tg e (liftI (rc X) t)

theorem bindS {α β : Type} {x : Option α} {f : α → Option β} {b : β} (h : x.bind f = some b) : ∃ a, x = some a ∧ f a = some b := by
  cases x with
  | none => cases h
  | some a => exact ⟨a, rfl, h⟩

section
variable {X : Cx} {fx : List Nat}

/-! ### from owned to frozen -/
def ice (t : TV) : TF := fun sd => (t sd).bind fun p => some (p.1.d, p.2)
theorem RepV.ice {c : RC} {G T H : Hp} {sd : DEnv} {σ : L2.St} {r : DV} {v : V} (S : StOk c G T sd σ H) (h : RepV c G T H r v) (f : FreshV sd σ r v) : ∃ G', Same G G' ∧ StOk c G' T sd σ H ∧ Rep c G' r.d v := by
  cases r with
  | fz d => exact ⟨G, Same.refl, S, h⟩
  | ow d =>
    obtain ⟨p, rfl, a1, a2, a3⟩ := h
    obtain ⟨o, ho⟩ := a3.ex
    exact ⟨upd G p o, same_upd a1, S.ice ho a1 a2 f, a3.freeze ho a1⟩
theorem df_ice {e : Expr} {t : TV} (h : DVE X e t) : DF X e (ice t) := PEi h fun σ H Q ⟨G, T, sd, d, sd', S, e1, k⟩ => by
  obtain ⟨p, hp, e2⟩ := bindS e1
  cases e2
  refine ⟨G, T, sd, p.1, p.2, S, hp, fun v G' H' s S' r f => ?_⟩
  obtain ⟨G2, s2, S2, r2⟩ := r.ice S' f
  exact k v G2 H' (Same.tr s s2) S2 r2
def ofF (t : TF) : TV := fun sd => (t sd).bind fun p => some (.fz p.1, p.2)
theorem dv_of {e : Expr} {t : TF} (h : DF X e t) : DVE X e (ofF t) := PEi h fun σ H Q ⟨G, T, sd, d, sd', S, e1, k⟩ => by
  obtain ⟨p, hp, e2⟩ := bindS e1
  cases e2
  exact ⟨G, T, sd, p.1, p.2, S, hp, fun v G' H' s S' r => k v G' H' s S' r True.intro⟩

/-! ### names -/
def dVar (i : Nat) : TF := fun sd => match sd[i]? with
  | some (some (.fz d)) => some (d, sd)
  | some (some (.ow d)) => some (d, sd.set i (some (.fz d)))
  | _ => none
theorem df_var {i : Nat} {e : Expr} (h : PE X e (tVar i)) : DF X e (dVar i) := PEi h fun σ H Q ⟨G, T, sd, d, sd', S, e1, k⟩ => by
  unfold dVar at e1
  cases q : sd[i]? with
  | none => rw [q] at e1; cases e1
  | some o =>
    cases o with
    | none => rw [q] at e1; cases e1
    | some dv =>
      cases dv with
      | fz d0 =>
        rw [q] at e1; cases e1
        obtain ⟨v, e2, r⟩ := S.slots i _ q
        exact ⟨v, e2, k v G H Same.refl S r⟩
      | ow d0 =>
        rw [q] at e1; cases e1
        obtain ⟨p, G', e2, s, S', r⟩ := S.freeze q
        exact ⟨.ref p, e2, k _ G' H s S' r⟩
/-- a name's thing is handed on, the name is empty then -/
def dMove (i : Nat) : TV := fun sd => match sd[i]? with
  | some (some dv) => some (dv, sd.set i none)
  | _ => none
theorem StOk.drop {c : RC} {G T H : Hp} {sd : DEnv} {σ : L2.St} (S : StOk c G T sd σ H) (i : Nat) : StOk c G T (sd.set i none) σ H where
  same := S.same
  sameT := S.sameT
  apart := S.apart
  len := by rw [List.length_set]; exact S.len
  slots := fun j dv e => by
    rw [List.getElem?_set] at e
    split at e
    · split at e <;> cases e
    · exact S.slots j dv e
  inj := fun j k d1 d2 v e1 e2 => by
    rw [List.getElem?_set] at e1 e2
    split at e1
    · split at e1 <;> cases e1
    · split at e2
      · split at e2 <;> cases e2
      · exact S.inj j k d1 d2 v e1 e2
theorem dv_move {i : Nat} {e : Expr} (h : PE X e (tVar i)) : DVE X e (dMove i) := PEi h fun σ H Q ⟨G, T, sd, d, sd', S, e1, k⟩ => by
  unfold dMove at e1
  cases q : sd[i]? with
  | none => rw [q] at e1; cases e1
  | some o =>
    cases o with
    | none => rw [q] at e1; cases e1
    | some dv =>
      rw [q] at e1; cases e1
      obtain ⟨v, e2, r⟩ := S.slots i _ q
      refine ⟨v, e2, k v G H Same.refl (S.drop i) r ?_⟩
      cases d with
      | fz _ => exact True.intro
      | ow d0 =>
        intro j d1 e3 e4
        rw [List.getElem?_set] at e3
        split at e3
        · split at e3 <;> cases e3
        · rename_i hj
          exact hj (S.inj i j d0 d1 v q e3 e2 e4)

/-! ### constants -/
def dC (d : D) : TF := fun sd => some (d, sd)
theorem df_c {d : D} {v : V} {e : Expr} (h : PE X e (tC v)) (r : ∀ H, Rep (rc X) H d v) : DF X e (dC d) := PEi h fun σ H Q ⟨G, T, sd, d', sd', S, e1, k⟩ => by
  cases e1
  exact k v G H Same.refl S (r G)
theorem df_int {i j pos} : DF X (.Constant (.int i) j pos) (dC (.int i)) := df_c pe_int fun _ => by simp [Rep]
theorem df_bl {b j pos} : DF X (.Constant (.bool b) j pos) (dC (.bl b)) := df_c pe_bl fun _ => by simp [Rep]
theorem df_non {j pos} : DF X (.Constant .none j pos) (dC .non) := df_c pe_non fun _ => by simp [Rep]
theorem df_str {x j pos} : DF X (.Constant (.str x) j pos) (dC (.str x)) := df_c pe_str fun _ => by simp [Rep]
theorem df_gint {x : Str} {n : Int} {t : Tok} {pos : Pos} (hg : Gl X x) (hm : X.mg x = some (.int n t)) (hd : (x == ("__debug__" : Str)) = false := by decide) : DF X (.Name x pos) (dC (.int n)) :=
  df_c (pe_glob (v := .int n) hg hm ⟨t, rfl⟩ hd) fun _ => by simp [Rep]

/-! ### two operands -/
abbrev F2 := D → D → Option D
def liftOp (c : RC) (f : F2) : R2 := fun v u H Q => ∃ G T sd σ x y d, StOk c G T sd σ H ∧ Rep c G x v ∧ Rep c G y u ∧ f x y = some d ∧ ∀ w G' H', Same G G' → StOk c G' T sd σ H' → Rep c G' d w → Q w H'
def dBin (f : F2) (ta tb : TF) : TF := fun sd => (ta sd).bind fun p => (tb p.2).bind fun q => (f p.1 q.1).bind fun d => some (d, q.2)
theorem two_ok {f : F2} {ta tb : TF} {σ : L2.St} {H : Hp} {Q : VK} (h : liftF (rc X) (dBin f ta tb) σ H Q) : liftF (rc X) ta σ H fun x H1 => liftF (rc X) tb σ H1 fun y H2 => liftOp (rc X) f x y H2 Q := by
  obtain ⟨G, T, sd, d, sd', S, e1, k⟩ := h
  obtain ⟨p, hp, e1⟩ := bindS e1
  obtain ⟨q, hq, e1⟩ := bindS e1
  obtain ⟨d1, hd, e1⟩ := bindS e1
  cases e1
  refine ⟨G, T, sd, p.1, p.2, S, hp, fun v G1 H1 s1 S1 r1 => ⟨G1, T, p.2, q.1, q.2, S1, hq, fun u G2 H2 s2 S2 r2 => ?_⟩⟩
  exact ⟨G2, T, q.2, σ, p.1, q.1, d, S2, Rep.mono s2 _ _ r1, r2, hd, fun w G3 H3 s3 S3 r3 => k w G3 H3 (Same.tr s1 (Same.tr s2 s3)) S3 r3⟩
theorem df_op {op : Operator} {f : F2} {a b : Expr} {ta tb : TF} {pos : Pos} (ho : OpR X (binaryOp op) (liftOp (rc X) f)) (ha : DF X a ta) (hb : DF X b tb) : DF X (.BinOp a op b pos) (dBin f ta tb) :=
  PEi (pe_op ho ha hb) fun σ H Q h => two_ok h
theorem df_cmp {op : CmpOp} {f : F2} {a b : Expr} {ta tb : TF} {pos : Pos} (ho : OpR X (compareOp op) (liftOp (rc X) f)) (ha : DF X a ta) (hb : DF X b tb) (hm : behindInMarks op b = false) : DF X (.Compare a [op] [b] pos) (dBin f ta tb) :=
  PEi (pe_cmpR ho ha hb hm) fun σ H Q h => two_ok h
def dTst (t : TF) : TB := fun sd => (t sd).bind fun p => match p.1 with
  | .bl b => some (b, p.2)
  | _ => none
theorem dt_val {e : Expr} {t : TF} (h : DF X e t) (he : ∀ whole, isTrue e X.env whole = (do let v ← whole; standAt e.pos; holding [v] (truthy v)) := by intro _; rfl) : DT X e (dTst t) :=
  PTi (pt_val h he) fun σ H Q ⟨G, T, sd, b, sd', S, e1, k⟩ => by
    obtain ⟨p, hp, e1⟩ := bindS e1
    refine ⟨G, T, sd, p.1, p.2, S, hp, fun v G' H' s S' r => ?_⟩
    cases q : p.1 with
    | bl b' =>
      rw [q] at e1 r
      cases e1
      simp only [Rep] at r
      exact ⟨b, r, k G' H' s S'⟩
    | _ => rw [q] at e1; cases e1
def dAnd (t u : TB) : TB := fun sd => (t sd).bind fun p => if p.1 = true then u p.2 else some (false, p.2)
def dOr (t u : TB) : TB := fun sd => (t sd).bind fun p => if p.1 = true then some (true, p.2) else u p.2
def dNot (t : TB) : TB := fun sd => (t sd).bind fun p => some (!p.1, p.2)
theorem dw_and1 {a : Expr} {t : TB} {pos : Pos} (ha : DT X a t) : DW X (.BoolOp .And [a] pos) t := pw_and1 ha
theorem dw_or1 {a : Expr} {t : TB} {pos : Pos} (ha : DT X a t) : DW X (.BoolOp .Or [a] pos) t := pw_or1 ha
theorem dw_and {a b : Expr} {rest : List Expr} {t u : TB} {pos : Pos} (ha : DT X a t) (hb : DW X (.BoolOp .And (b :: rest) pos) u) : DW X (.BoolOp .And (a :: b :: rest) pos) (dAnd t u) :=
  PWi (pw_and ha hb) fun σ H Q ⟨G, T, sd, b, sd', S, e1, k⟩ => by
    obtain ⟨p, hp, e1⟩ := bindS e1
    refine ⟨G, T, sd, p.1, p.2, S, hp, fun G' H' s S' => ?_⟩
    split at e1
    · rename_i hc; rw [hc]; exact ⟨G', T, p.2, b, sd', S', e1, fun G2 H2 s2 S2 => k G2 H2 (Same.tr s s2) S2⟩
    · rename_i hc; cases e1; rw [if_neg hc]; exact k G' H' s S'
theorem dw_or {a b : Expr} {rest : List Expr} {t u : TB} {pos : Pos} (ha : DT X a t) (hb : DW X (.BoolOp .Or (b :: rest) pos) u) : DW X (.BoolOp .Or (a :: b :: rest) pos) (dOr t u) :=
  PWi (pw_or ha hb) fun σ H Q ⟨G, T, sd, b, sd', S, e1, k⟩ => by
    obtain ⟨p, hp, e1⟩ := bindS e1
    refine ⟨G, T, sd, p.1, p.2, S, hp, fun G' H' s S' => ?_⟩
    split at e1
    · rename_i hc; cases e1; rw [hc]; exact k G' H' s S'
    · rename_i hc; rw [if_neg hc]; exact ⟨G', T, p.2, b, sd', S', e1, fun G2 H2 s2 S2 => k G2 H2 (Same.tr s s2) S2⟩
theorem dt_w {e : Expr} {t : TB} (h : DW X e t) : DT X e t := h.pt
theorem dt_not {a : Expr} {t : TB} {pos : Pos} (ha : DT X a t) : DT X (.UnaryOp .Not a pos) (dNot t) :=
  PTi (pt_not ha) fun σ H Q ⟨G, T, sd, b, sd', S, e1, k⟩ => by
    obtain ⟨p, hp, e1⟩ := bindS e1
    cases e1
    exact ⟨G, T, sd, p.1, p.2, S, hp, fun G' H' s S' => k G' H' s S'⟩
/-- and, or, not as values (all parts but the last True or False) -/
def dAndV (t u : TF) : TF := fun sd => (t sd).bind fun p => match p.1 with
  | .bl true => u p.2
  | .bl false => some (.bl false, p.2)
  | _ => none
def dOrV (t u : TF) : TF := fun sd => (t sd).bind fun p => match p.1 with
  | .bl true => some (.bl true, p.2)
  | .bl false => u p.2
  | _ => none
def dNotV (t : TF) : TF := fun sd => (t sd).bind fun p => match p.1 with
  | .bl b => some (.bl (!b), p.2)
  | _ => none
theorem df_one {op} {a : Expr} {t : TF} {pos : Pos} (ha : DF X a t) : DF X (.BoolOp op [a] pos) t := pe_one ha
theorem df_and {a b : Expr} {rest : List Expr} {t u : TF} {pos : Pos} (ha : DF X a t) (hb : DF X (.BoolOp .And (b :: rest) pos) u) : DF X (.BoolOp .And (a :: b :: rest) pos) (dAndV t u) :=
  PEi (pe_and ha hb) fun σ H Q ⟨G, T, sd, d, sd', S, e1, k⟩ => by
    obtain ⟨p, hp, e1⟩ := bindS e1
    refine ⟨G, T, sd, p.1, p.2, S, hp, fun v G' H' s S' r => ?_⟩
    cases q : p.1 with
    | bl b' =>
      rw [q] at e1 r
      simp only [Rep] at r
      refine ⟨b', r, ?_⟩
      cases b' with
      | true => exact ⟨G', T, p.2, d, sd', S', e1, fun w G2 H2 s2 S2 r2 => k w G2 H2 (Same.tr s s2) S2 r2⟩
      | false => cases e1; exact k _ G' H' s S' (by simp [Rep])
    | _ => rw [q] at e1; cases e1
theorem df_or {a b : Expr} {rest : List Expr} {t u : TF} {pos : Pos} (ha : DF X a t) (hb : DF X (.BoolOp .Or (b :: rest) pos) u) : DF X (.BoolOp .Or (a :: b :: rest) pos) (dOrV t u) :=
  PEi (pe_or ha hb) fun σ H Q ⟨G, T, sd, d, sd', S, e1, k⟩ => by
    obtain ⟨p, hp, e1⟩ := bindS e1
    refine ⟨G, T, sd, p.1, p.2, S, hp, fun v G' H' s S' r => ?_⟩
    cases q : p.1 with
    | bl b' =>
      rw [q] at e1 r
      simp only [Rep] at r
      refine ⟨b', r, ?_⟩
      cases b' with
      | false => exact ⟨G', T, p.2, d, sd', S', e1, fun w G2 H2 s2 S2 r2 => k w G2 H2 (Same.tr s s2) S2 r2⟩
      | true => cases e1; exact k _ G' H' s S' (by simp [Rep])
    | _ => rw [q] at e1; cases e1
theorem df_not {a : Expr} {t : TF} {pos : Pos} (ha : DF X a t) : DF X (.UnaryOp .Not a pos) (dNotV t) :=
  PEi (pe_not ha) fun σ H Q ⟨G, T, sd, d, sd', S, e1, k⟩ => by
    obtain ⟨p, hp, e1⟩ := bindS e1
    refine ⟨G, T, sd, p.1, p.2, S, hp, fun v G' H' s S' r => ?_⟩
    cases q : p.1 with
    | bl b' =>
      rw [q] at e1 r
      simp only [Rep] at r
      cases e1
      exact ⟨b', r, k _ G' H' s S' (by simp [Rep])⟩
    | _ => rw [q] at e1; cases e1
def dIf (c : TB) (t u : TF) : TF := fun sd => (c sd).bind fun p => if p.1 = true then t p.2 else u p.2
theorem df_if {c a b : Expr} {tc : TB} {t u : TF} {pos : Pos} (hc : DT X c tc) (ha : DF X a t) (hb : DF X b u) : DF X (.IfExp c a b pos) (dIf tc t u) :=
  PEi (pe_ifExp hc ha hb) fun σ H Q ⟨G, T, sd, d, sd', S, e1, k⟩ => by
    obtain ⟨p, hp, e1⟩ := bindS e1
    refine ⟨G, T, sd, p.1, p.2, S, hp, fun G' H' s S' => ?_⟩
    split at e1
    · rename_i h; rw [h]; exact ⟨G', T, p.2, d, sd', S', e1, fun w G2 H2 s2 S2 r2 => k w G2 H2 (Same.tr s s2) S2 r2⟩
    · rename_i h; rw [if_neg h]; exact ⟨G', T, p.2, d, sd', S', e1, fun w G2 H2 s2 S2 r2 => k w G2 H2 (Same.tr s s2) S2 r2⟩
def dIfV (c : TB) (t u : TV) : TV := fun sd => (c sd).bind fun p => if p.1 = true then t p.2 else u p.2
theorem dv_if {c a b : Expr} {tc : TB} {t u : TV} {pos : Pos} (hc : DT X c tc) (ha : DVE X a t) (hb : DVE X b u) : DVE X (.IfExp c a b pos) (dIfV tc t u) :=
  PEi (pe_ifExp hc ha hb) fun σ H Q ⟨G, T, sd, d, sd', S, e1, k⟩ => by
    obtain ⟨p, hp, e1⟩ := bindS e1
    refine ⟨G, T, sd, p.1, p.2, S, hp, fun G' H' s S' => ?_⟩
    split at e1
    · rename_i h; rw [h]; exact ⟨G', T, p.2, d, sd', S', e1, fun w G2 H2 s2 S2 r2 => k w G2 H2 (Same.tr s s2) S2 r2⟩
    · rename_i h; rw [if_neg h]; exact ⟨G', T, p.2, d, sd', S', e1, fun w G2 H2 s2 S2 r2 => k w G2 H2 (Same.tr s s2) S2 r2⟩
end
end DS
end

section
set_option Elab.async false
set_option linter.all false
set_option maxRecDepth 100000
set_option maxHeartbeats 1000000
namespace DS
open PySem PySem.Spec PyProof.Rows L2
section
variable {X : Cx} {fx : List Nat}

/-! ### statements -/
def dNext : TM := fun sd => some (.nx, sd)
def dSeq (t u : TM) : TM := fun sd => (t sd).bind fun p => match p.1 with
  | .nx => u p.2
  | o => some (o, p.2)
theorem ds_nil : DSs X fx [] dNext := PSsi pss_nil fun E σ H ⟨G, T, sd, o, sd', S, e1, k⟩ => by
  cases e1; exact k σ G H Same.refl Fix.refl S
theorem ds_cons {st : Stmt} {rest : List Stmt} {t u : TM} (h1 : DS' X fx st t) (h2 : DSs X fx rest u) : DSs X fx (st :: rest) (dSeq t u) :=
  PSsi (pss_cons h1 h2) fun E σ H ⟨G, T, sd, o, sd', S, e1, k⟩ => by
    obtain ⟨p, hp, e1⟩ := bindS e1
    refine ⟨G, T, sd, p.1, p.2, S, hp, fun σ' G' H' s f S' => ?_⟩
    cases q : p.1 with
    | nx =>
      rw [q] at e1
      exact ⟨G', T, p.2, o, sd', S', e1, fun σ2 G2 H2 s2 f2 S2 => k σ2 G2 H2 (Same.tr s s2) (Fix.tr f f2) S2⟩
    | bk => rw [q] at e1; cases e1; exact k σ' G' H' s f S'
    | ct => rw [q] at e1; cases e1; exact k σ' G' H' s f S'
    | rt r => rw [q] at e1; cases e1; exact k σ' G' H' s f S'
theorem ds_one {st : Stmt} {t : TM} (h1 : DS' X fx st t) : DSs X fx [st] t := pss_one h1
def dPass : TM := dNext
theorem ds_pass {pos : Pos} : DS' X fx (.Pass pos) dPass := PSi ps_pass fun E σ H ⟨G, T, sd, o, sd', S, e1, k⟩ => by
  cases e1; exact k σ G H Same.refl Fix.refl S
def dBrk : TM := fun sd => some (.bk, sd)
theorem ds_break {pos : Pos} : DS' X fx (.Break pos) dBrk := PSi ps_break fun E σ H ⟨G, T, sd, o, sd', S, e1, k⟩ => by
  cases e1; exact k σ G H Same.refl Fix.refl S
def dCnt : TM := fun sd => some (.ct, sd)
theorem ds_continue {pos : Pos} : DS' X fx (.Continue pos) dCnt := PSi ps_continue fun E σ H ⟨G, T, sd, o, sd', S, e1, k⟩ => by
  cases e1; exact k σ G H Same.refl Fix.refl S
/-- code that is not come to -/
def dNever : TM := fun _ => none
theorem ds_never {st : Stmt} : DS' X fx st dNever := PSi ps_never fun E σ H ⟨G, T, sd, o, sd', S, e1, k⟩ => by cases e1
theorem dss_never {sts : List Stmt} : DSs X fx sts dNever := PSsi pss_never fun E σ H ⟨G, T, sd, o, sd', S, e1, k⟩ => by cases e1
def dIfS (c : TB) (t u : TM) : TM := fun sd => (c sd).bind fun p => if p.1 = true then t p.2 else u p.2
theorem ds_if {c : Expr} {a b : List Stmt} {tc : TB} {t u : TM} {pos : Pos} (hc : DT X c tc) (ha : DSs X fx a t) (hb : DSs X fx b u) : DS' X fx (.If c a b pos) (dIfS tc t u) :=
  PSi (ps_if hc ha hb) fun E σ H ⟨G, T, sd, o, sd', S, e1, k⟩ => by
    obtain ⟨p, hp, e1⟩ := bindS e1
    refine ⟨G, T, sd, p.1, p.2, S, hp, fun G' H' s S' => ?_⟩
    split at e1
    · rename_i h; rw [h]; exact ⟨G', T, p.2, o, sd', S', e1, fun σ2 G2 H2 s2 f2 S2 => k σ2 G2 H2 (Same.tr s s2) f2 S2⟩
    · rename_i h; rw [if_neg h]; exact ⟨G', T, p.2, o, sd', S', e1, fun σ2 G2 H2 s2 f2 S2 => k σ2 G2 H2 (Same.tr s s2) f2 S2⟩
def dRet (t : TV) : TM := fun sd => (t sd).bind fun p => some (.rt p.1, p.2)
theorem ds_ret {e : Expr} {t : TV} {pos : Pos} (h : DVE X e t) : DS' X fx (.Return (some e) pos) (dRet t) :=
  PSi (ps_ret h) fun E σ H ⟨G, T, sd, o, sd', S, e1, k⟩ => by
    obtain ⟨p, hp, e1⟩ := bindS e1
    cases e1
    exact ⟨G, T, sd, p.1, p.2, S, hp, fun v G' H' s S' r f => k σ G' H' s Fix.refl S' v r f⟩
def dExp (t : TF) : TM := fun sd => (t sd).bind fun p => some (.nx, p.2)
theorem ds_expr {e : Expr} {t : TF} {pos : Pos} (h : DF X e t) (hs : swapsWith e none pos.line X.env = pure false := by rfl) : DS' X fx (.Expr e pos) (dExp t) :=
  PSi (ps_expr h hs) fun E σ H ⟨G, T, sd, o, sd', S, e1, k⟩ => by
    obtain ⟨p, hp, e1⟩ := bindS e1
    cases e1
    exact ⟨G, T, sd, p.1, p.2, S, hp, fun v G' H' s S' r => k σ G' H' s Fix.refl S'⟩
/-- name = .. -/
def dSet (i : Nat) (t : TV) : TM := fun sd => (t sd).bind fun p => some (.nx, p.2.set i (some p.1))
theorem fix_set {σ : L2.St} {i : Nat} {o : Option V} (h : i ∉ fx) : Fix fx σ (σ.set i o) := ⟨fun j hj => by
  rw [List.getElem?_set_ne (fun e => h (by rw [e]; exact hj))], List.length_set⟩
theorem ds_set {i : Nat} {tg e : Expr} {t : TV} {pos : Pos} {te : TE} (h : PS X (.Assign [tg] e pos) (tAsg te (gName i))) (ht : ∀ σ H Q, liftV (rc X) t σ H Q → te σ H Q) (hi : i ∉ fx := by decide) : DS' X fx (.Assign [tg] e pos) (dSet i t) :=
  PSi h fun E σ H ⟨G, T, sd, o, sd', S, e1, k⟩ => by
    obtain ⟨p, hp, e1⟩ := bindS e1
    cases e1
    exact ht σ H _ ⟨G, T, sd, p.1, p.2, S, hp, fun v G' H' s S' r f => k (σ.set i (some v)) G' H' s (fix_set hi) (S'.store r f)⟩
/-! ### targets -/
def bName (i : Nat) : BG := fun d sd => some (sd.set i (some (.fz d)))
theorem dg_name {i : Nat} {e : Expr} (h : PG X e (gName i)) (hi : i ∉ fx := by decide) : DG X fx e (bName i) :=
  PGi h fun v σ H Q ⟨G, T, sd, d, sd', S, r, e1, k⟩ => by
    cases e1
    exact k (σ.set i (some v)) G H Same.refl (fix_set hi) (S.store (dv := .fz d) r True.intro)
def bNil : BGs := fun ds sd => match ds with
  | [] => some sd
  | _ => none
def bCons (b : BG) (r : BGs) : BGs := fun ds sd => match ds with
  | d :: rest => (b d sd).bind fun s1 => r rest s1
  | [] => none
theorem dgs_nil : DGs X fx [] bNil := PGsi pgs_nil fun vs σ H Q ⟨G, T, sd, ds, sd', S, r, e1, k⟩ => by
  cases ds with
  | nil =>
    cases e1
    simp only [RepL] at r
    exact ⟨r, k σ G H Same.refl Fix.refl S⟩
  | cons d ds => cases e1
theorem dgs_cons {e : Expr} {es : List Expr} {b : BG} {r : BGs} (h1 : DG X fx e b) (h2 : DGs X fx es r) (hs : (assignEach (e :: es) X.env).map (·.2) = assign e X.env :: (assignEach es X.env).map (·.2) := by rfl) : DGs X fx (e :: es) (bCons b r) :=
  PGsi (pgs_cons h1 h2 hs) fun vs σ H Q ⟨G, T, sd, ds, sd', S, rr, e1, k⟩ => by
    cases ds with
    | nil => cases e1
    | cons d ds =>
      obtain ⟨s1, e2, e3⟩ := bindS e1
      obtain ⟨v, vr, e4, r1, r2⟩ := rr.uncons
      refine ⟨v, vr, e4, G, T, sd, d, s1, S, r1, e2, fun σ1 G1 H1 sm f1 S1 => ?_⟩
      exact ⟨G1, T, s1, ds, sd', S1, RepL.mono sm _ _ r2, e3, fun σ2 G2 H2 sm2 f2 S2 => k σ2 G2 H2 (Same.tr sm sm2) (Fix.tr f1 f2) S2⟩
def bTup (n : Nat) (r : BGs) : BG := fun d sd => match d with
  | .tup ds => if ds.length = n then r ds sd else none
  | _ => none
theorem dg_tup {es : List Expr} {k : Nat} {pos : Pos} {b : BGs} {n : Nat} (hc : X.calm = true) (h : DGs X fx es b) (hn : (assignEach es X.env).length = n := by rfl) (hst : (assignEach es X.env).findIdx? (·.1) = none := by rfl) : DG X fx (.Tuple es k pos) (bTup n b) :=
  PGi (pg_tup hc h hn hst) fun v σ H Q ⟨G, T, sd, d, sd', S, r, e1, k⟩ => by
    cases d with
    | tup ds =>
      unfold bTup at e1
      simp only at e1
      split at e1
      · rename_i hl
        simp only [Rep] at r
        obtain ⟨a, vs, e2, hq, rl⟩ := r
        exact ⟨a, vs, e2, SqT.mono hq S.same, by rw [rl.length]; exact hl, G, T, sd, ds, sd', S, rl, e1, k⟩
      · cases e1
    | _ => cases e1
/-- (a, ..) = ..; o[i] = .. -/
def dAsgG (t : TF) (b : BG) : TM := fun sd => (t sd).bind fun p => (b p.1 p.2).bind fun s => some (.nx, s)
theorem ds_asg {tg e : Expr} {t : TF} {b : BG} {pos : Pos} (h : DF X e t) (hg : DG X fx tg b) (hs : swapsWithSole [tg] e pos.line X.env = pure false := by rfl) (hw : swappedStores [tg] e X.env = pure none := by rfl)
    (h1 : (assignEach [tg] X.env).map (·.2) = [assign tg X.env] := by rfl) : DS' X fx (.Assign [tg] e pos) (dAsgG t b) :=
  PSi (ps_asg h hg hs hw h1) fun E σ H ⟨G, T, sd, o, sd', S, e1, k⟩ => by
    obtain ⟨p, hp, e1⟩ := bindS e1
    obtain ⟨s1, e2, e3⟩ := bindS e1
    cases e3
    exact ⟨G, T, sd, p.1, p.2, S, hp, fun v G1 H1 s S1 r => ⟨G1, T, p.2, p.1, _, S1, r, e2, fun σ2 G2 H2 s2 f2 S2 => k σ2 G2 H2 (Same.tr s s2) f2 S2⟩⟩

/-! ### for -/
def dForL (b : BG) (body : TM) : List D → TM
  | [], sd => some (.nx, sd)
  | x :: xs, sd => (b x sd).bind fun s1 => (body s1).bind fun p => match p.1 with
    | .nx => dForL b body xs p.2
    | .ct => dForL b body xs p.2
    | .bk => some (.nx, p.2)
    | .rt r => some (.rt r, p.2)
def dFor (w : TW) (b : BG) (body : TM) : TM := fun sd => (w sd).bind fun p => dForL b body p.1 p.2
theorem StOk.grow {c : RC} {G T H G' H' : Hp} {sd : DEnv} {σ : L2.St} (S : StOk c G T sd σ H) (g : Grow G H G' H') : Same G G' ∧ Same H H' ∧ StOk c G' T sd σ H' := by
  have sG : Same G G' := fun a o e => by
    rcases g a with ⟨e1, _⟩ | ⟨e1, _⟩
    · rw [e1]; exact e
    · rw [S.same a o e] at e1; cases e1
  have sH : Same H H' := fun a o e => by
    rcases g a with ⟨_, e1⟩ | ⟨e1, _⟩
    · rw [e1]; exact e
    · rw [e] at e1; cases e1
  refine ⟨sG, sH, fun a o e => ?_, Same.tr S.sameT sH, fun a o e => ?_, S.len, fun i dv e => ?_, S.inj⟩
  · rcases g a with ⟨e1, e2⟩ | ⟨e1, o', e2, e3⟩
    · rw [e1] at e; exact sH a o (S.same a o e)
    · rcases e3 with e3 | e3
      · rw [e3] at e; cases e
      · rw [e3] at e; cases e; exact e2
  · rcases g a with ⟨e1, e2⟩ | ⟨e1, _⟩
    · rw [e1]; exact S.apart a o e
    · rw [S.sameT a o e] at e1; cases e1
  · obtain ⟨v, e1, r⟩ := S.slots i dv e
    refine ⟨v, e1, ?_⟩
    cases dv with
    | fz d => exact Rep.mono sG _ _ r
    | ow d =>
      obtain ⟨p, rfl, a1, a2, a3⟩ := r
      obtain ⟨o, ho⟩ := a3.ex
      refine ⟨p, rfl, ?_, a2, a3.mono sG ((sH p o ho).trans ho.symm)⟩
      rcases g p with ⟨e1, _⟩ | ⟨e1, _⟩
      · rw [e1]; exact a1
      · rw [ho] at e1; cases e1
theorem ds_for {iter tg : Expr} {body : List Stmt} {w : TW} {b : BG} {t : TM} {pos : Pos} (hp : PassesOwn (model X.prog X.w) X.A X.env X.xe) (hc : X.calm = true) (hi : DI X tg iter w) (hg : DG X fx tg b) (hb : DSs X fx body t)
    (hs : ∀ x, foldedSetIterable iter X.env x = pure x := by intro _; rfl) : DS' X fx (.For tg iter body [] pos) (dFor w b t) :=
  PSi (ps_for hp hc hi hg hb hs) fun E σ H ⟨G, T, sd, o, sd', S, e1, k⟩ => by
    obtain ⟨p, hp, e1⟩ := bindS e1
    refine ⟨G, T, sd, p.1, p.2, S, hp, fun J G1 H1 s1 S1 W => ?_⟩
    refine ⟨fun i m σ2 H2 => m = p.1.length - i ∧ i ≤ p.1.length ∧ ∃ G2 sd2, Same G1 G2 ∧ Fix fx σ σ2 ∧ StOk (rc X) G2 T sd2 σ2 H2 ∧ dForL b t (p.1.drop i) sd2 = some (o, sd'), ⟨p.1.length, by simp, Nat.zero_le _, G1, p.2, Same.refl, Fix.refl, S1, e1⟩, ?_⟩
    rintro i m σ2 H2 ⟨rfl, hi, G2, sd2, s2, f2, S2, e2⟩
    by_cases hlt : i < p.1.length
    · obtain ⟨x, hx, hd⟩ : ∃ x, p.1[i]? = some x ∧ p.1.drop i = x :: p.1.drop (i + 1) := ⟨p.1[i], by simp [hlt], List.drop_eq_getElem_cons hlt⟩
      rw [hd] at e2
      obtain ⟨s3, e3, e2⟩ := bindS e2
      obtain ⟨q, e4, e2⟩ := bindS e2
      obtain ⟨go, yl⟩ := (W i G2 H2 s2 S2.same).1 x hx
      refine .inr ⟨go, fun σ' H' => i + 1 ≤ p.1.length ∧ ∃ G' sd3, Same G1 G' ∧ Fix fx σ σ' ∧ StOk (rc X) G' T sd3 σ' H' ∧ dForL b t (p.1.drop (i + 1)) sd3 = some (o, sd'), ?_, ?_⟩
      · rintro σ' H' ⟨h1, G', sd3, a1, a2, a3, a4⟩
        exact ⟨p.1.length - (i + 1), by omega, rfl, h1, G', sd3, a1, a2, a3, a4⟩
      · intro v H' y
        obtain ⟨G3, s5, gr, rx⟩ := yl v H' y
        obtain ⟨_, _, S3⟩ := S2.grow gr
        refine ⟨G3, T, sd2, x, s3, S3, rx, e3, fun σ4 G4 H4 s6 f4 S4 => ?_⟩
        refine ⟨G4, T, s3, q.1, q.2, S4, e4, fun σ5 G5 H5 s7 f5 S5 => ?_⟩
        have sall : Same G1 G5 := Same.tr s2 (Same.tr s5 (Same.tr s6 s7))
        have fall : Fix fx σ σ5 := Fix.tr f2 (Fix.tr f4 f5)
        cases hq : q.1 with
        | nx => rw [hq] at e2; exact ⟨hlt, G5, q.2, sall, fall, S5, e2⟩
        | ct => rw [hq] at e2; exact ⟨hlt, G5, q.2, sall, fall, S5, e2⟩
        | bk => rw [hq] at e2; cases e2; exact k σ5 G5 H5 (Same.tr s1 sall) fall S5
        | rt r => rw [hq] at e2; cases e2; exact k σ5 G5 H5 (Same.tr s1 sall) fall S5
    · have e : i = p.1.length := by omega
      subst e
      rw [List.drop_length] at e2
      cases e2
      exact .inl ⟨(W _ G2 H2 s2 S2.same).2 (Nat.le_refl _), k σ2 G2 H2 (Same.tr s1 s2) f2 S2⟩
/-! ### while -/
def dWhileL (c : TB) (body : TM) : Nat → TM
  | 0, _ => none
  | n + 1, sd => (c sd).bind fun p => if p.1 = true then (body p.2).bind fun q => match q.1 with
      | .nx => dWhileL c body n q.2
      | .ct => dWhileL c body n q.2
      | .bk => some (.nx, q.2)
      | .rt r => some (.rt r, q.2)
    else some (.nx, p.2)
def dWhile (fuel : DEnv → Nat) (c : TB) (body : TM) : TM := fun sd => dWhileL c body (fuel sd) sd
theorem ds_while (fuel : DEnv → Nat) {c : Expr} {body : List Stmt} {tc : TB} {t : TM} {pos : Pos} (hp : PassesOwn (model X.prog X.w) X.A X.env X.xe) (hc : DT X c tc) (hb : DSs X fx body t) : DS' X fx (.While c body [] pos) (dWhile fuel tc t) :=
  PSi (ps_while hp hc hb) fun E σ H ⟨G, T, sd, o, sd', S, e1, k⟩ => by
    refine ⟨fun m σ2 H2 => ∃ G2 sd2, Same G G2 ∧ Fix fx σ σ2 ∧ StOk (rc X) G2 T sd2 σ2 H2 ∧ dWhileL tc t m sd2 = some (o, sd'), ⟨fuel sd, G, sd, Same.refl, Fix.refl, S, e1⟩, ?_⟩
    rintro m σ2 H2 ⟨G2, sd2, s2, f2, S2, e2⟩
    cases m with
    | zero => cases e2
    | succ m =>
      obtain ⟨p, hp, e2⟩ := bindS e2
      refine ⟨G2, T, sd2, p.1, p.2, S2, hp, fun G3 H3 s3 S3 => ?_⟩
      split at e2
      · rename_i h
        rw [if_pos h]
        obtain ⟨q, hq, e2⟩ := bindS e2
        refine ⟨fun σ' H' => ∃ G' sd3, Same G G' ∧ Fix fx σ σ' ∧ StOk (rc X) G' T sd3 σ' H' ∧ dWhileL tc t m sd3 = some (o, sd'), fun σ' H' n => ⟨m, Nat.lt_succ_self m, n⟩, ?_⟩
        refine ⟨G3, T, p.2, q.1, q.2, S3, hq, fun σ4 G4 H4 s4 f4 S4 => ?_⟩
        have sall : Same G G4 := Same.tr s2 (Same.tr s3 s4)
        have fall : Fix fx σ σ4 := Fix.tr f2 f4
        cases hq1 : q.1 with
        | nx => rw [hq1] at e2; exact ⟨G4, q.2, sall, fall, S4, e2⟩
        | ct => rw [hq1] at e2; exact ⟨G4, q.2, sall, fall, S4, e2⟩
        | bk => rw [hq1] at e2; cases e2; exact k σ4 G4 H4 sall fall S4
        | rt r => rw [hq1] at e2; cases e2; exact k σ4 G4 H4 sall fall S4
      · rename_i h
        rw [if_neg h]
        cases e2
        exact k σ2 G3 H3 (Same.tr s2 s3) f2 S3
end
end DS
end

section
set_option Elab.async false
set_option linter.all false
set_option maxRecDepth 100000
set_option maxHeartbeats 1000000
namespace DS
open PySem PySem.Spec PyProof.Rows L2
section
variable {X : Cx} {fx : List Nat}
/-! ### operators, by data -/
def addD : F2
  | .int i, .int j => some (.int (i + j))
  | .str a, .str b => if a.length + b.length ≤ sizeLine then some (.str (a ++ b)) else none
  | .tup a, .tup b => if a.length + b.length ≤ sizeLine then some (.tup (a ++ b)) else none
  | .lst a, .lst b => if a.length + b.length ≤ sizeLine then some (.lst (a ++ b)) else none
  | _, _ => none
theorem Rep.i {c : RC} {H : Hp} {i : Int} {v : V} (h : Rep c H (.int i) v) : v = .int i := by simpa only [Rep] using h
theorem Rep.b {c : RC} {H : Hp} {i : Bool} {v : V} (h : Rep c H (.bl i) v) : v = .bl i := by simpa only [Rep] using h
theorem Rep.s {c : RC} {H : Hp} {i : Str} {v : V} (h : Rep c H (.str i) v) : v = .str i := by simpa only [Rep] using h
theorem Rep.t {c : RC} {H : Hp} {ds : List D} {v : V} (h : Rep c H (.tup ds) v) : ∃ a vs, v = .ref a ∧ SqT c.K H a vs ∧ RepL c H ds vs := by simpa only [Rep] using h
theorem Rep.l {c : RC} {H : Hp} {ds : List D} {v : V} (h : Rep c H (.lst ds) v) : ∃ a vs, v = .ref a ∧ H a = some (.lst vs) ∧ RepL c H ds vs := by simpa only [Rep] using h
theorem Rep.k {c : RC} {H : Hp} {ds : List D} {v : V} (h : Rep c H (.kl ds) v) : ∃ a vs, v = .ref a ∧ SqL c.K H a vs ∧ RepL c H ds vs := by simpa only [Rep] using h
theorem Rep.int (c : RC) (H : Hp) (i : Int) : Rep c H (.int i) (.int i) := by simp [Rep]
theorem Rep.bl (c : RC) (H : Hp) (i : Bool) : Rep c H (.bl i) (.bl i) := by simp [Rep]
theorem Rep.str (c : RC) (H : Hp) (i : Str) : Rep c H (.str i) (.str i) := by simp [Rep]
theorem Rep.non (c : RC) (H : Hp) : Rep c H .non .non := by simp [Rep]
theorem Rep.newT {c : RC} {G : Hp} {ds : List D} {vs : List V} {p : Addr} (hp : G p = none) (r : RepL c G ds vs) : Rep c (upd G p (.tup vs)) (.tup ds) (.ref p) := by
  simp only [Rep]; exact ⟨p, vs, rfl, SqT.of upd_same, RepL.mono (same_upd hp) _ _ r⟩
theorem Rep.newL {c : RC} {G : Hp} {ds : List D} {vs : List V} {p : Addr} (hp : G p = none) (r : RepL c G ds vs) : Rep c (upd G p (.lst vs)) (.lst ds) (.ref p) := by
  simp only [Rep]; exact ⟨p, vs, rfl, upd_same, RepL.mono (same_upd hp) _ _ r⟩
theorem ite_some {α : Type} {p : Prop} [Decidable p] {a b : α} (h : (if p then some a else none) = some b) : p ∧ a = b := by
  split at h
  · rename_i hp; cases h; exact ⟨hp, rfl⟩
  · cases h
theorem op_addD : OpR X (binaryOp .Add) (liftOp (rc X) addD) :=
  OpRi (op_add.or (op_add_str.or (op_catA.or op_cat))) fun v u H Q ⟨G, T, sd, σ, x, y, d, S, rx, ry, e, k⟩ => by
    unfold addD at e
    split at e
    · cases e
      exact .inl ⟨_, _, rx.i, ry.i, k _ G H Same.refl S (Rep.int ..)⟩
    · obtain ⟨hz, rfl⟩ := ite_some e
      exact .inr (.inl ⟨_, _, rx.s, ry.s, hz, k _ G H Same.refl S (Rep.str ..)⟩)
    · rename_i a b
      obtain ⟨hz, rfl⟩ := ite_some e
      obtain ⟨p, vs, rfl, hv, r1⟩ := rx.t
      obtain ⟨q, us, rfl, hu, r2⟩ := ry.t
      refine .inr (.inr (.inl ⟨p, q, vs, us, rfl, rfl, SqT.mono hv S.same, SqT.mono hu S.same, by rw [r1.length, r2.length]; exact hz, fun e => ?_, fun _ e => ?_, fun _ _ m hm => ?_⟩))
      · have : a = [] := List.eq_nil_of_length_eq_zero (by rw [← r1.length, e]; rfl)
        subst this
        exact k _ G H Same.refl S ry
      · have : b = [] := List.eq_nil_of_length_eq_zero (by rw [← r2.length, e]; rfl)
        subst this
        rw [List.append_nil] at k
        exact k _ G H Same.refl S rx
      · have gn := S.gnone hm
        exact k _ _ _ (same_upd gn) (S.laid hm) (Rep.newT gn (r1.append r2))
    · obtain ⟨hz, rfl⟩ := ite_some e
      obtain ⟨p, vs, rfl, hv, r1⟩ := rx.l
      obtain ⟨q, us, rfl, hu, r2⟩ := ry.l
      refine .inr (.inr (.inr ⟨p, q, vs, us, rfl, rfl, S.same _ _ hv, S.same _ _ hu, by rw [r1.length, r2.length]; exact hz, fun m hm => ?_⟩))
      have gn := S.gnone hm
      exact k _ _ _ (same_upd gn) (S.laid hm) (Rep.newL gn (r1.append r2))
    · cases e
def subD : F2
  | .int i, .int j => some (.int (i - j))
  | _, _ => none
theorem op_subD : OpR X (binaryOp .Sub) (liftOp (rc X) subD) :=
  OpRi op_sub fun v u H Q ⟨G, T, sd, σ, x, y, d, S, rx, ry, e, k⟩ => by
    unfold subD at e
    split at e
    · cases e; exact ⟨_, _, rx.i, ry.i, k _ G H Same.refl S (Rep.int ..)⟩
    · cases e
def mulD : F2
  | .int i, .int j => if i.natAbs.log2 + j.natAbs.log2 < 1000000 then some (.int (i * j)) else none
  | .lst a, .int k => if -(2 ^ 63) ≤ k ∧ k < 2 ^ 63 ∧ a.length * k.toNat ≤ sizeLine then some (.lst (List.replicate k.toNat a).flatten) else none
  | _, _ => none
theorem RepL.flat {c : RC} {H : Hp} {ds : List D} {vs : List V} (h : RepL c H ds vs) (n : Nat) : RepL c H (List.replicate n ds).flatten (List.replicate n vs).flatten := by
  induction n with
  | zero => exact RepL.nil
  | succ n ih => rw [List.replicate_succ, List.replicate_succ, List.flatten_cons, List.flatten_cons]; exact h.append ih
theorem op_mulD : OpR X (binaryOp .Mult) (liftOp (rc X) mulD) :=
  OpRi (op_mulW.or op_rep) fun v u H Q ⟨G, T, sd, σ, x, y, d, S, rx, ry, e, k⟩ => by
    unfold mulD at e
    split at e
    · obtain ⟨hz, rfl⟩ := ite_some e
      exact .inl ⟨_, _, rx.i, ry.i, hz, k _ G H Same.refl S (Rep.int ..)⟩
    · obtain ⟨⟨h1, h2, h3⟩, rfl⟩ := ite_some e
      obtain ⟨p, vs, rfl, hv, r1⟩ := rx.l
      refine .inr ⟨p, _, vs, rfl, ry.i, S.same _ _ hv, h1, h2, by rw [r1.length]; exact h3, fun m hm => ?_⟩
      have gn := S.gnone hm
      exact k _ _ _ (same_upd gn) (S.laid hm) (Rep.newL gn (r1.flat _))
    · cases e
def CDivX (i j : Int) : Prop := j ≠ 0 ∧ j.natAbs.log2 < 9000
theorem op_fdivX : OpR X (binaryOp .FloorDiv) (rI CDivX fun i j => .int (i.fdiv j)) := opI fun i j _ _ _ _ _ hc q => floordiv_int hc.1 q (.inl (PyProof.noPylong_of_log2 hc.2))
def fdivD : F2
  | .int i, .int j => if j ≠ 0 ∧ j.natAbs.log2 < 9000 then some (.int (i.fdiv j)) else none
  | _, _ => none
theorem op_fdivD : OpR X (binaryOp .FloorDiv) (liftOp (rc X) fdivD) :=
  OpRi op_fdivX fun v u H Q ⟨G, T, sd, σ, x, y, d, S, rx, ry, e, k⟩ => by
    unfold fdivD at e
    split at e
    · obtain ⟨hz, rfl⟩ := ite_some e
      exact ⟨_, _, rx.i, ry.i, hz, k _ G H Same.refl S (Rep.int ..)⟩
    · cases e
def modD : F2
  | .int i, .int j => if j ≠ 0 then some (.int (i.fmod j)) else none
  | _, _ => none
theorem op_modD : OpR X (binaryOp .Mod) (liftOp (rc X) modD) :=
  OpRi op_modN fun v u H Q ⟨G, T, sd, σ, x, y, d, S, rx, ry, e, k⟩ => by
    unfold modD at e
    split at e
    · obtain ⟨hz, rfl⟩ := ite_some e
      exact ⟨_, _, rx.i, ry.i, hz, k _ G H Same.refl S (Rep.int ..)⟩
    · cases e
def powD : F2
  | .int i, .int j => if 0 ≤ j ∧ j ≤ 1000000 ∧ i.natAbs < 2 ^ 64 then some (.int (i ^ j.toNat)) else none
  | _, _ => none
theorem op_powD : OpR X (binaryOp .Pow) (liftOp (rc X) powD) :=
  OpRi op_pow fun v u H Q ⟨G, T, sd, σ, x, y, d, S, rx, ry, e, k⟩ => by
    unfold powD at e
    split at e
    · obtain ⟨hz, rfl⟩ := ite_some e
      exact ⟨_, _, rx.i, ry.i, hz, k _ G H Same.refl S (Rep.int ..)⟩
    · cases e
def cmpD (f : Int → Int → Bool) : F2
  | .int i, .int j => some (.bl (f i j))
  | _, _ => none
theorem op_cmpD {op : CmpOp} {f : Int → Int → Bool} (h : OpR X (compareOp op) (rI0 fun i j => .bl (f i j))) : OpR X (compareOp op) (liftOp (rc X) (cmpD f)) :=
  OpRi h fun v u H Q ⟨G, T, sd, σ, x, y, d, S, rx, ry, e, k⟩ => by
    unfold cmpD at e
    split at e
    · cases e; exact ⟨_, _, rx.i, ry.i, k _ G H Same.refl S (Rep.bl ..)⟩
    · cases e
def ltD : F2 := cmpD fun i j => decide (i < j)
def leD : F2 := cmpD fun i j => decide (i ≤ j)
def gtD : F2 := cmpD fun i j => decide (j < i)
def geD : F2 := cmpD fun i j => decide (j ≤ i)
theorem op_ltD : OpR X (compareOp .Lt) (liftOp (rc X) ltD) := op_cmpD op_lt
theorem op_leD : OpR X (compareOp .LtE) (liftOp (rc X) leD) := op_cmpD op_le
theorem op_gtD : OpR X (compareOp .Gt) (liftOp (rc X) gtD) := op_cmpD op_gt
theorem op_geD : OpR X (compareOp .GtE) (liftOp (rc X) geD) := op_cmpD op_ge

/-! ### == of plain data -/
mutual
def D.pd : D → Option PyData
  | .non => some .none
  | .bl b => some (.bool b)
  | .int i => some (.int i)
  | .str x => some (.str x)
  | .tup ds => match D.pds ds with
    | some l => some (.tuple l)
    | none => none
  | .lst ds => match D.pds ds with
    | some l => some (.list l)
    | none => none
  | _ => none
def D.pds : List D → Option (List PyData)
  | [] => some []
  | d :: ds => match D.pd d, D.pds ds with
    | some x, some l => some (x :: l)
    | _, _ => none
end
mutual
theorem Rep.dp {c : RC} {H : Hp} : ∀ (d : D) (v : V) (x : PyData), Rep c H d v → D.pd d = some x → Dp c.K H v x
  | .non, v, x, h, e => by simp only [Rep, D.pd, Option.some.injEq] at h e; subst h e; exact .non
  | .bl b, v, x, h, e => by simp only [Rep, D.pd, Option.some.injEq] at h e; subst h e; exact .bl b
  | .int i, v, x, h, e => by simp only [Rep, D.pd, Option.some.injEq] at h e; subst h e; exact .int i
  | .str s, v, x, h, e => by simp only [Rep, D.pd, Option.some.injEq] at h e; subst h e; exact .str s
  | .tup ds, v, x, h, e => by
    simp only [Rep, D.pd] at h e
    obtain ⟨a, vs, rfl, q, r⟩ := h
    split at e
    · rename_i l hl
      cases e
      exact .tup q (RepL.dps ds vs l r hl)
    · cases e
  | .lst ds, v, x, h, e => by
    simp only [Rep, D.pd] at h e
    obtain ⟨a, vs, rfl, q, r⟩ := h
    split at e
    · rename_i l hl
      cases e
      exact .lst (SqL.of q) (RepL.dps ds vs l r hl)
    · cases e
  | .kl _, v, x, h, e => by simp [D.pd] at e
  | .dct _, v, x, h, e => by simp [D.pd] at e
  | .ins _ _ _, v, x, h, e => by simp [D.pd] at e
theorem RepL.dps {c : RC} {H : Hp} : ∀ (ds : List D) (vs : List V) (xs : List PyData), RepL c H ds vs → D.pds ds = some xs → DpAll c.K H vs xs
  | [], vs, xs, h, e => by simp only [RepL, D.pds, Option.some.injEq] at h e; subst h e; exact .nil
  | d :: ds, vs, xs, h, e => by
    simp only [RepL, D.pds] at h e
    obtain ⟨v, r, rfl, h1, h2⟩ := h
    split at e
    · rename_i x l hx hl
      cases e
      exact .cons (Rep.dp d v x h1 hx) (RepL.dps ds r l h2 hl)
    · cases e
end
def eqP (neg : Bool) : F2 := fun x y => match D.pd x, D.pd y with
  | some a, some b => if SeqAt.shaped a = true ∧ SeqAt.shaped b = true then some (.bl (xor neg (PyData.eqv a b))) else none
  | _, _ => none
theorem Dp.mono {K : PySem.W.Frag} {G H : Hp} (s : Same G H) {v : V} {x : PyData} (h : Dp K G v x) : Dp K H v x := by
  refine Dp.rec (motive_1 := fun v x _ => Dp K H v x) (motive_2 := fun v x _ => DpAll K H v x) .non .bl .int .str (fun q _ i => .lst (SqL.mono q s) i) (fun q _ i => .tup (SqT.mono q s) i) .nil (fun _ _ a b => .cons a b) h
theorem op_eqP (hu : X.A.units + 64 < cLine) : OpR X (compareOp .Eq) (liftOp (rc X) (eqP false)) :=
  OpRi (op_eqD hu) fun v u H Q ⟨G, T, sd, σ, x, y, d, S, rx, ry, e, k⟩ => by
    unfold eqP at e
    split at e
    · rename_i a b ha hb
      obtain ⟨⟨h1, h2⟩, rfl⟩ := ite_some e
      refine ⟨a, b, Dp.mono S.same (Rep.dp _ _ _ rx ha), Dp.mono S.same (Rep.dp _ _ _ ry hb), h1, h2, k _ G H Same.refl S ?_⟩
      rw [Bool.false_xor]
      exact Rep.bl ..
    · cases e
theorem op_neP (hu : X.A.units + 64 < cLine) : OpR X (compareOp .NotEq) (liftOp (rc X) (eqP true)) :=
  OpRi (op_neD hu) fun v u H Q ⟨G, T, sd, σ, x, y, d, S, rx, ry, e, k⟩ => by
    unfold eqP at e
    split at e
    · rename_i a b ha hb
      obtain ⟨⟨h1, h2⟩, rfl⟩ := ite_some e
      refine ⟨a, b, Dp.mono S.same (Rep.dp _ _ _ rx ha), Dp.mono S.same (Rep.dp _ _ _ ry hb), h1, h2, k _ G H Same.refl S ?_⟩
      rw [Bool.true_xor]
      exact Rep.bl ..
    · cases e

/-! ### displays, subscripts, slices -/
abbrev TL := DEnv → Option (List D × DEnv)
def liftA (c : RC) (t : TL) : TA := fun σ H Q => ∃ G T sd ds sd', StOk c G T sd σ H ∧ t sd = some (ds, sd') ∧ ∀ vs G' H', Same G G' → StOk c G' T sd' σ H' → RepL c G' ds vs → Q vs H'
abbrev DAs (X : Cx) (es : List Expr) (t : TL) : Prop := PA X es (liftA (rc X) t)
def dNil : TL := fun sd => some ([], sd)
def dCons (t : TF) (r : TL) : TL := fun sd => (t sd).bind fun p => (r p.2).bind fun q => some (p.1 :: q.1, q.2)
theorem da_nil : DAs X [] dNil := PAi pa_nil fun σ H Q ⟨G, T, sd, ds, sd', S, e, k⟩ => by cases e; exact k [] G H Same.refl S RepL.nil
theorem da_cons {e : Expr} {es : List Expr} {t : TF} {r : TL} (h : DF X e t) (hr : DAs X es r) (hs : starEach (e :: es) X.env = (false, eval e X.env) :: starEach es X.env := by rfl) : DAs X (e :: es) (dCons t r) :=
  PAi (pa_cons h hr hs) fun σ H Q ⟨G, T, sd, ds, sd', S, e1, k⟩ => by
    obtain ⟨p, hp, e1⟩ := bindS e1
    obtain ⟨q, hq, e1⟩ := bindS e1
    cases e1
    exact ⟨G, T, sd, p.1, p.2, S, hp, fun v G1 H1 s1 S1 r1 => ⟨G1, T, p.2, q.1, q.2, S1, hq, fun vs G2 H2 s2 S2 r2 => k (v :: vs) G2 H2 (Same.tr s1 s2) S2 (RepL.cons (Rep.mono s2 _ _ r1) r2)⟩⟩
def dTup (t : TL) : TF := fun sd => (t sd).bind fun p => if p.1.length ≤ sizeLine then some (.tup p.1, p.2) else none
theorem df_tup {es : List Expr} {t : TL} {x1 pos} (h : DAs X es t) : DF X (.Tuple es x1 pos) (dTup t) :=
  PEi (pe_tup h) fun σ H Q ⟨G, T, sd, d, sd', S, e1, k⟩ => by
    obtain ⟨p, hp, e1⟩ := bindS e1
    obtain ⟨hz, e2⟩ := ite_some e1
    cases e2
    refine ⟨G, T, sd, p.1, p.2, S, hp, fun vs G1 H1 s1 S1 r1 => ⟨by rw [r1.length]; exact hz, fun m hm => ?_⟩⟩
    have gn := S1.gnone hm
    exact k _ _ _ (Same.tr s1 (same_upd gn)) (S1.laid hm) (Rep.newT gn r1)
def dLst (t : TL) : TV := fun sd => (t sd).bind fun p => if p.1.length ≤ sizeLine then some (.ow (.lst p.1), p.2) else none
theorem dv_lst {es : List Expr} {t : TL} {pos} (h : DAs X es t) : DVE X (.List es pos) (dLst t) :=
  PEi (pe_lst h) fun σ H Q ⟨G, T, sd, d, sd', S, e1, k⟩ => by
    obtain ⟨p, hp, e1⟩ := bindS e1
    obtain ⟨hz, e2⟩ := ite_some e1
    cases e2
    refine ⟨G, T, sd, p.1, p.2, S, hp, fun vs G1 H1 s1 S1 r1 => ⟨by rw [r1.length]; exact hz, fun m hm => ?_⟩⟩
    exact k _ G1 _ s1 (S1.more hm) ⟨m, rfl, S1.gnone hm, Same.nn S1.sameT hm, vs, upd_same, r1⟩ (S1.fresh_new hm)
/-- the item at an index, of any sign -/
def itemD : F2
  | .tup ds, .int i => atI ds i
  | .lst ds, .int i => atI ds i
  | .kl ds, .int i => atI ds i
  | _, _ => none
theorem RepL.atI {c : RC} {H : Hp} {ds : List D} {vs : List V} (h : RepL c H ds vs) {i : Int} {d : D} (e : L2.atI ds i = some d) : ∃ v, L2.atI vs i = some v ∧ Rep c H d v := by
  unfold L2.atI at e ⊢
  rw [h.length]
  obtain ⟨j, hj, e⟩ := bindS e
  rw [hj]
  exact h.get e
def liftIx (c : RC) (f : F2) : R2 := liftOp c f
theorem ix_D : IxR X (liftOp (rc X) itemD) :=
  IxRi (ix_list.or ix_tup) fun v u H Q ⟨G, T, sd, σ, x, y, d, S, rx, ry, e, k⟩ => by
    unfold itemD at e
    split at e
    · obtain ⟨a, vs, rfl, q, r⟩ := rx.t
      obtain ⟨w, e2, rw'⟩ := r.atI e
      exact .inr ⟨a, vs, _, w, rfl, ry.i, SqT.mono q S.same, e2, k w G H Same.refl S rw'⟩
    · obtain ⟨a, vs, rfl, q, r⟩ := rx.l
      obtain ⟨w, e2, rw'⟩ := r.atI e
      exact .inl ⟨a, vs, _, w, rfl, ry.i, SqL.of (S.same _ _ q), e2, k w G H Same.refl S rw'⟩
    · obtain ⟨a, vs, rfl, q, r⟩ := rx.k
      obtain ⟨w, e2, rw'⟩ := r.atI e
      exact .inl ⟨a, vs, _, w, rfl, ry.i, SqL.mono q S.same, e2, k w G H Same.refl S rw'⟩
    · cases e
theorem df_ix {a b : Expr} {ta tb : TF} {pos : Pos} (ha : DF X a ta) (hb : DF X b tb) (hs : PlainIx b := by exact fun _ _ => rfl) : DF X (.Subscript a b pos) (dBin itemD ta tb) :=
  PEi (pe_ix ix_D ha hb hs) fun σ H Q h => two_ok h
/-- the thing that slot i holds, behind some reckoning that leaves the slots' places -/
theorem StOk.at_ {c : RC} {G T H : Hp} {sd : DEnv} {σ : L2.St} (S : StOk c G T sd σ H) {i : Nat} {dv : DV} {v : V} (h : sd[i]? = some (some dv)) (hv : σ[i]? = some (some v)) : RepV c G T H dv v := by
  obtain ⟨v', e, r⟩ := S.slots i dv h
  rw [hv] at e; cases e; exact r
/-- what is read of an owned or frozen thing -/
theorem RepV.item {c : RC} {G T H : Hp} {dv : DV} {v : V} (s : Same G H) (r : RepV c G T H dv v) {x d : D} {u : V} (rx : Rep c G x u) (e : itemD dv.d x = some d) :
    ∃ a vs w i, v = .ref a ∧ (SqL c.K H a vs ∨ SqT c.K H a vs) ∧ u = .int i ∧ L2.atI vs i = some w ∧ Rep c G d w := by
  cases dv with
  | fz y =>
    have r : Rep c G y v := r
    simp only [DV.d] at e
    unfold itemD at e
    split at e
    · obtain ⟨a, vs, rfl, q, rl⟩ := r.t
      obtain ⟨w, e2, rw'⟩ := rl.atI e
      exact ⟨a, vs, w, _, rfl, .inr (SqT.mono q s), rx.i, e2, rw'⟩
    · obtain ⟨a, vs, rfl, q, rl⟩ := r.l
      obtain ⟨w, e2, rw'⟩ := rl.atI e
      exact ⟨a, vs, w, _, rfl, .inl (SqL.of (s _ _ q)), rx.i, e2, rw'⟩
    · obtain ⟨a, vs, rfl, q, rl⟩ := r.k
      obtain ⟨w, e2, rw'⟩ := rl.atI e
      exact ⟨a, vs, w, _, rfl, .inl (SqL.mono q s), rx.i, e2, rw'⟩
    · cases e
  | ow y =>
    obtain ⟨p, rfl, _, _, ro⟩ := r
    simp only [DV.d] at e
    unfold itemD at e
    split at e
    · exact ro.elim
    · obtain ⟨vs, q, rl⟩ := ro
      obtain ⟨w, e2, rw'⟩ := rl.atI e
      exact ⟨p, vs, w, _, rfl, .inl (SqL.of q), rx.i, e2, rw'⟩
    · exact ro.elim
    · cases e
/-- a name's thing, read where it stands (it stays owned) -/
def dIxV (i : Nat) (tb : TF) : TF := fun sd => match sd[i]? with
  | some (some _) => (tb sd).bind fun q => match q.2[i]? with
    | some (some dv) => (itemD dv.d q.1).bind fun d => some (d, q.2)
    | _ => none
  | _ => none
theorem df_ixv {i : Nat} {a b : Expr} {tb : TF} {pos : Pos} (ha : PE X a (tVar i)) (hb : DF X b tb) (hs : PlainIx b := by exact fun _ _ => rfl) : DF X (.Subscript a b pos) (dIxV i tb) :=
  PEi (pe_ix (ix_list.or ix_tup) ha hb hs) fun σ H Q ⟨G, T, sd, d, sd', S, e1, k⟩ => by
    unfold dIxV at e1
    split at e1
    · rename_i dv0 h0
      obtain ⟨v, hv, _⟩ := S.slots i _ h0
      obtain ⟨q, hq, e1⟩ := bindS e1
      refine ⟨v, hv, G, T, sd, q.1, q.2, S, hq, fun u G1 H1 s1 S1 r1 => ?_⟩
      split at e1
      · rename_i dv h2
        obtain ⟨d', e3, e4⟩ := bindS e1
        cases e4
        obtain ⟨a, vs, w, j, rfl, hsq, rfl, e5, r5⟩ := (S1.at_ h2 hv).item S1.same r1 e3
        rcases hsq with hsq | hsq
        · exact .inl ⟨a, vs, j, w, rfl, rfl, hsq, e5, k w G1 H1 s1 S1 r5⟩
        · exact .inr ⟨a, vs, j, w, rfl, rfl, hsq, e5, k w G1 H1 s1 S1 r5⟩
      · cases e1
    · cases e1
/-! ### slices -/
abbrev TPt := DEnv → Option (Option Int × DEnv)
def liftO (c : RC) (t : TPt) : TO := fun σ H Q => ∃ G T sd o sd', StOk c G T sd σ H ∧ t sd = some (o, sd') ∧ ∀ G' H', Same G G' → StOk c G' T sd' σ H' → Q o H'
theorem POi {e : Option Expr} {t t' : TO} (h : PO X e t) (i : ∀ σ H Q, t' σ H Q → t σ H Q) : PO X e t' := ⟨fun pins s σ H Q I q => h.run pins s σ H Q I (i σ H Q q)⟩
abbrev DO (X : Cx) (e : Option Expr) (t : TPt) : Prop := PO X e (liftO (rc X) t)
def dNoPt : TPt := fun sd => some (none, sd)
def dPt (t : TF) : TPt := fun sd => (t sd).bind fun p => match p.1 with
  | .int i => some (some i, p.2)
  | _ => none
theorem do_none : DO X none dNoPt := POi po_none fun σ H Q ⟨G, T, sd, o, sd', S, e, k⟩ => by cases e; exact k G H Same.refl S
theorem do_some {e : Expr} {t : TF} (h : DF X e t) : DO X (some e) (dPt t) := POi (po_some h) fun σ H Q ⟨G, T, sd, o, sd', S, e1, k⟩ => by
  obtain ⟨p, hp, e1⟩ := bindS e1
  refine ⟨G, T, sd, p.1, p.2, S, hp, fun v G1 H1 s1 S1 r1 => ?_⟩
  split at e1
  · rename_i i hi
    cases e1
    rw [hi] at r1
    exact ⟨i, r1.i, k G1 H1 s1 S1⟩
  · cases e1
def cutL {α : Type} (xs : List α) (lo hi : Option Int) : List α := (xs.drop (HT.sIx xs.length 0 lo)).take (HT.sIx xs.length xs.length hi - HT.sIx xs.length 0 lo)
def cutD (d : D) (lo hi : Option Int) : Option DV := match d with
  | .tup ds => some (.fz (.tup (cutL ds lo hi)))
  | .lst ds => some (.ow (.lst (cutL ds lo hi)))
  | _ => none
theorem RepL.cut {c : RC} {H : Hp} {ds : List D} {vs : List V} (h : RepL c H ds vs) (lo hi : Option Int) : RepL c H (cutL ds lo hi) (cutV vs lo hi) := by
  unfold cutL cutV
  rw [h.length]
  exact (h.drop _).take _
theorem cutL_all {α : Type} {xs : List α} {lo hi : Option Int} (h : HT.sIx xs.length 0 lo = 0 ∧ HT.sIx xs.length xs.length hi = xs.length) : cutL xs lo hi = xs := by
  unfold cutL
  rw [h.1, h.2, List.drop_zero, Nat.sub_zero, List.take_length]
def dSl (t : TF) (l h : TPt) : TV := fun sd => (t sd).bind fun p => (l p.2).bind fun q => (h q.2).bind fun r => (cutD p.1 q.1 r.1).bind fun d => some (d, r.2)
theorem dv_slice {e : Expr} {lo hi : Option Expr} {t : TF} {l h : TPt} {p2 pos} (he : DF X e t) (hl : DO X lo l) (hu : DO X hi h) : DVE X (.Subscript e (.Slice lo hi none p2) pos) (dSl t l h) :=
  PEi (pe_slice (sl_tupA.or sl_list) he hl hu) fun σ H Q ⟨G, T, sd, d, sd', S, e1, k⟩ => by
    obtain ⟨p, hp, e1⟩ := bindS e1
    obtain ⟨q, hq, e1⟩ := bindS e1
    obtain ⟨r, hr, e1⟩ := bindS e1
    obtain ⟨d1, hd, e1⟩ := bindS e1
    cases e1
    refine ⟨G, T, sd, p.1, p.2, S, hp, fun v G1 H1 s1 S1 r1 => ⟨G1, T, p.2, q.1, q.2, S1, hq, fun G2 H2 s2 S2 => ⟨G2, T, q.2, r.1, r.2, S2, hr, fun G3 H3 s3 S3 => ?_⟩⟩⟩
    have r3 := Rep.mono (Same.tr s2 s3) _ _ r1
    have sall := Same.tr s1 (Same.tr s2 s3)
    unfold cutD at hd
    split at hd
    · rename_i ds hds
      cases hd
      rw [hds] at r3
      obtain ⟨a, vs, rfl, hsq, rl⟩ := r3.t
      refine .inl ⟨a, vs, rfl, SqT.mono hsq S3.same, fun hw => ?_, fun _ m hm => ?_⟩
      · refine k _ G3 H3 sall S3 ?_ True.intro
        rw [rl.length] at hw
        show Rep _ _ _ _
        rw [cutL_all hw]
        exact r3
      · have gn := S3.gnone hm
        exact k _ _ _ (Same.tr sall (same_upd gn)) (S3.laid hm) (Rep.newT gn (rl.cut _ _)) True.intro
    · rename_i ds hds
      cases hd
      rw [hds] at r3
      obtain ⟨a, vs, rfl, hsq, rl⟩ := r3.l
      refine .inr ⟨a, vs, rfl, SqL.of (S3.same _ _ hsq), fun m hm => ?_⟩
      exact k _ G3 _ sall (S3.more hm) ⟨m, rfl, S3.gnone hm, Same.nn S3.sameT hm, _, upd_same, rl.cut _ _⟩ (S3.fresh_new hm)
    · cases hd
end
end DS
end

section
set_option Elab.async false
set_option linter.all false
set_option maxRecDepth 100000
set_option maxHeartbeats 1000000
namespace DS
open PySem PySem.Spec PyProof.Rows L2
open Classical in
/-- T and what the owned slots outside ps hold -/
noncomputable def guardT (T H : Hp) (sd : DEnv) (σ : L2.St) (ps : List Nat) : Hp := fun a => if ∃ (i : Nat) (d : D), sd[i]? = some (some (DV.ow d)) ∧ i ∉ ps ∧ σ[i]? = some (some (.ref a)) then H a else T a
section
variable {c : RC} {G T H : Hp} {sd : DEnv} {σ : L2.St} {ps : List Nat}
theorem guardT_in {i : Nat} {d : D} {a : Addr} (h1 : sd[i]? = some (some (DV.ow d))) (h2 : i ∉ ps) (h3 : σ[i]? = some (some (.ref a))) : guardT T H sd σ ps a = H a := by
  unfold guardT; rw [if_pos ⟨i, d, h1, h2, h3⟩]
theorem guardT_out {a : Addr} (h : ∀ (i : Nat) (d : D), sd[i]? = some (some (DV.ow d)) → i ∉ ps → σ[i]? ≠ some (some (.ref a))) : guardT T H sd σ ps a = T a := by
  unfold guardT; rw [if_neg (fun ⟨i, d, h1, h2, h3⟩ => h i d h1 h2 h3)]
theorem guardT_cases (a : Addr) : (∃ (i : Nat) (d : D), sd[i]? = some (some (DV.ow d)) ∧ i ∉ ps ∧ σ[i]? = some (some (.ref a)) ∧ guardT T H sd σ ps a = H a) ∨ guardT T H sd σ ps a = T a := by
  by_cases h : ∃ (i : Nat) (d : D), sd[i]? = some (some (DV.ow d)) ∧ i ∉ ps ∧ σ[i]? = some (some (.ref a))
  · obtain ⟨i, d, h1, h2, h3⟩ := h
    exact .inl ⟨i, d, h1, h2, h3, guardT_in h1 h2 h3⟩
  · refine .inr (guardT_out fun i d h1 h2 h3 => h ⟨i, d, h1, h2, h3⟩)
theorem StOk.guardSame (S : StOk c G T sd σ H) : Same (guardT T H sd σ ps) H := fun a o e => by
  rcases guardT_cases (T := T) (H := H) (sd := sd) (σ := σ) (ps := ps) a with ⟨_, _, _, _, _, q⟩ | q
  · rw [q] at e; exact e
  · rw [q] at e; exact S.sameT a o e
theorem StOk.guardSub (S : StOk c G T sd σ H) : Same T (guardT T H sd σ ps) := fun a o e => by
  rcases guardT_cases (T := T) (H := H) (sd := sd) (σ := σ) (ps := ps) a with ⟨_, _, _, _, _, q⟩ | q
  · rw [q]; exact S.sameT a o e
  · rw [q]; exact e
theorem StOk.guardApart (S : StOk c G T sd σ H) (a : Addr) (o : HO) (e : guardT T H sd σ ps a = some o) : G a = none := by
  rcases guardT_cases (T := T) (H := H) (sd := sd) (σ := σ) (ps := ps) a with ⟨i, d, h1, _, h3, _⟩ | q
  · obtain ⟨v, e1, p, rfl, g, _⟩ := S.slots i _ h1
    rw [h3] at e1; cases e1; exact g
  · rw [q] at e; exact S.apart a o e
end

/-! ### arguments -/
def AOk (c : RC) (G T : Hp) (sd : DEnv) (σ : L2.St) (H : Hp) : AV → V → Prop
  | .v r, v => RepV c G T H r v ∧ FreshV sd σ r v
  | .s i, v => σ[i]? = some (some v) ∧ ∃ dv, sd[i]? = some (some dv)
def slotsOf : List AV → List Nat
  | [] => []
  | .s i :: r => i :: slotsOf r
  | .v _ :: r => slotsOf r
def roots : List AV → List V → List V
  | .v (.ow _) :: as, v :: vs => v :: roots as vs
  | _ :: as, _ :: vs => roots as vs
  | _, _ => []
structure ArgsOk (c : RC) (G T : Hp) (sd : DEnv) (σ : L2.St) (H : Hp) (as : List AV) (vs : List V) : Prop where
  all : Paired (AOk c G T sd σ H) as vs
  nd : (roots as vs).Nodup
def liftAr (c : RC) (t : TAr) : TA := fun σ H Q => ∃ G T sd as sd', StOk c G T sd σ H ∧ t sd = some (as, sd') ∧ ∀ vs G' H', Same G G' → StOk c G' T sd' σ H' → ArgsOk c G' T sd' σ H' as vs → Q vs H'
abbrev DAr (X : Cx) (es : List Expr) (t : TAr) : Prop := PA X es (liftAr (rc X) t)
section
variable {c : RC} {G T H G' H' : Hp} {sd sd' : DEnv} {σ : L2.St}
theorem StOk.guard1 (S : StOk c G T sd σ H) {p : Addr} {o : HO} (hG : G p = none) (hT : T p = none) (ho : H p = some o) (f : Fresh sd σ (.ref p)) : StOk c G (upd T p o) sd σ H where
  same := S.same
  sameT := fun a u e => by
    by_cases h : a = p
    · subst h; rw [upd_same] at e; cases e; exact ho
    · rw [upd_ne h] at e; exact S.sameT a u e
  apart := fun a u e => by
    by_cases h : a = p
    · subst h; exact hG
    · rw [upd_ne h] at e; exact S.apart a u e
  len := S.len
  slots := fun i dv e => by
    obtain ⟨v, e1, r⟩ := S.slots i dv e
    refine ⟨v, e1, ?_⟩
    cases dv with
    | fz d => exact r
    | ow d =>
      obtain ⟨q, rfl, a1, a2, a3⟩ := r
      exact ⟨q, rfl, a1, by rw [upd_ne (fun z => f i d e (by rw [e1, z]))]; exact a2, a3⟩
  inj := S.inj
theorem StOk.unguard (S : StOk c G T sd σ H) {T0 : Hp} (h : Same T0 T) : StOk c G T0 sd σ H where
  same := S.same
  sameT := Same.tr h S.sameT
  apart := fun a u e => S.apart a u (h a u e)
  len := S.len
  slots := fun i dv e => by
    obtain ⟨v, e1, r⟩ := S.slots i dv e
    refine ⟨v, e1, ?_⟩
    cases dv with
    | fz d => exact r
    | ow d =>
      obtain ⟨q, rfl, a1, a2, a3⟩ := r
      exact ⟨q, rfl, a1, Same.nn h a2, a3⟩
  inj := S.inj
theorem RepV.unguard {T0 : Hp} (h : Same T0 T) {r : DV} {v : V} (q : RepV c G T H r v) : RepV c G T0 H r v := by
  cases r with
  | fz d => exact q
  | ow d =>
    obtain ⟨p, rfl, a1, a2, a3⟩ := q
    exact ⟨p, rfl, a1, Same.nn h a2, a3⟩
theorem roots_unguarded {as : List AV} {vs : List V} {p : Addr} (hT : T p ≠ none) (h : Paired (AOk c G T sd σ H) as vs) : V.ref p ∉ roots as vs := by
  induction h with
  | nil => simp [roots]
  | @cons a v as vs h t ih =>
    cases a with
    | s i => simpa [roots] using ih
    | v r =>
      cases r with
      | fz d => simpa [roots] using ih
      | ow d =>
        simp only [roots, List.mem_cons, not_or]
        refine ⟨fun e => ?_, ih⟩
        obtain ⟨⟨q, e1, _, a2, _⟩, _⟩ := h
        rw [← e] at e1; cases e1
        exact hT a2
theorem AOk.unguard {T0 : Hp} (h : Same T0 T) {a : AV} {v : V} (q : AOk c G T sd σ H a v) : AOk c G T0 sd σ H a v := by
  cases a with
  | s i => exact q
  | v r => exact ⟨q.1.unguard h, q.2⟩
end
section
variable {X : Cx} {fx : List Nat}
def aNil : TAr := fun sd => some ([], sd)
theorem dr_nil : DAr X [] aNil := PAi pa_nil fun σ H Q ⟨G, T, sd, ds, sd', S, e, k⟩ => by
  cases e; exact k [] G H Same.refl S ⟨.nil, List.nodup_nil⟩
def aVal (t : TV) (r : TAr) : TAr := fun sd => (t sd).bind fun p => (r p.2).bind fun q => some (.v p.1 :: q.1, q.2)
theorem dr_val {e : Expr} {es : List Expr} {t : TV} {r : TAr} (h : DVE X e t) (hr : DAr X es r) (hs : starEach (e :: es) X.env = (false, eval e X.env) :: starEach es X.env := by rfl) : DAr X (e :: es) (aVal t r) :=
  PAi (pa_cons h hr hs) fun σ H Q ⟨G, T, sd, ds, sd', S, e1, k⟩ => by
    obtain ⟨⟨r0, sd1⟩, hp, e1⟩ := bindS e1
    obtain ⟨q, hq, e1⟩ := bindS e1
    cases e1
    refine ⟨G, T, sd, r0, sd1, S, hp, fun v G1 H1 s1 S1 r1 f1 => ?_⟩
    cases r0 with
    | fz d =>
      exact ⟨G1, T, sd1, q.1, q.2, S1, hq, fun vs G2 H2 s2 S2 a2 => k (v :: vs) G2 H2 (Same.tr s1 s2) S2 ⟨.cons ⟨Rep.mono s2 _ _ r1, True.intro⟩ a2.all, by simpa [roots] using a2.nd⟩⟩
    | ow d =>
      obtain ⟨pt, rfl, a1, a2, a3⟩ := r1
      obtain ⟨o, ho⟩ := a3.ex
      have sT : Same T (upd T pt o) := same_upd a2
      refine ⟨G1, upd T pt o, sd1, q.1, q.2, S1.guard1 a1 a2 ho f1, hq, fun vs G2 H2 s2 S2 b2 => ?_⟩
      have hH : H2 pt = some o := S2.sameT pt o upd_same
      have hG : G2 pt = none := S2.apart pt o upd_same
      have fr : Fresh q.2 σ (.ref pt) := fun i d' e2 e3 => by
        obtain ⟨w, e4, z, rfl, _, z2, _⟩ := S2.slots i _ e2
        rw [e3] at e4; cases e4
        rw [upd_same] at z2; cases z2
      refine k (V.ref pt :: vs) G2 H2 (Same.tr s1 s2) (S2.unguard sT) ⟨.cons ⟨⟨pt, rfl, hG, a2, a3.mono s2 (hH.trans ho.symm)⟩, fr⟩ (Paired.mapP b2.all fun a b => AOk.unguard sT), ?_⟩
      simp only [roots, List.nodup_cons]
      exact ⟨roots_unguarded (by rw [upd_same]; simp) b2.all, b2.nd⟩
/-- the thing of a slot is handed on (and may be changed there) -/
def aSlot (i : Nat) (r : TAr) : TAr := fun sd => match sd[i]? with
  | some (some _) => (r sd).bind fun q => match q.2[i]? with
    | some (some _) => some (.s i :: q.1, q.2)
    | _ => none
  | _ => none
theorem dr_slot {i : Nat} {e : Expr} {es : List Expr} {r : TAr} (h : PE X e (tVar i)) (hr : DAr X es r) (hs : starEach (e :: es) X.env = (false, eval e X.env) :: starEach es X.env := by rfl) : DAr X (e :: es) (aSlot i r) :=
  PAi (pa_cons h hr hs) fun σ H Q ⟨G, T, sd, ds, sd', S, e1, k⟩ => by
    unfold aSlot at e1
    split at e1
    · rename_i dv0 h0
      obtain ⟨v, hv, _⟩ := S.slots i _ h0
      obtain ⟨q, hq, e1⟩ := bindS e1
      refine ⟨v, hv, G, T, sd, q.1, q.2, S, hq, fun vs G2 H2 s2 S2 a2 => ?_⟩
      split at e1
      · rename_i dv h2
        cases e1
        exact k (v :: vs) G2 H2 s2 S2 ⟨.cons ⟨hv, dv, h2⟩ a2.all, by simpa [roots] using a2.nd⟩
      · cases e1
    · cases e1

/-! ### what a def does -/
abbrev Sem := List DV → Option (DV × List DV)
/-- a promise by a function on data -/
def spD (c : RC) (f : Sem) : Sp := fun vs H Q E => ∃ G T ds r ds', StOk c G T (ds.map some) (vs.map some) H ∧ f ds = some (r, ds') ∧ ds'.length = ds.length ∧
  ∀ v G' H', Same G G' → StOk c G' T (ds'.map some) (vs.map some) H' → RepV c G' T H' r v → FreshV (ds'.map some) (vs.map some) r v → Q v H'
/-- the things handed in -/
def argOf (sd : DEnv) : AV → Option DV
  | .v r => some r
  | .s i => match sd[i]? with
    | some (some dv) => some dv
    | _ => none
def argsOf (sd : DEnv) : List AV → Option (List DV)
  | [] => some []
  | a :: as => (argOf sd a).bind fun d => (argsOf sd as).bind fun ds => some (d :: ds)
/-- the slots' things behind the call -/
def backTo' : List AV → List DV → DEnv → DEnv
  | .s i :: as, d :: ds, sd => (backTo' as ds sd).set i (some d)
  | .v _ :: as, _ :: ds, sd => backTo' as ds sd
  | _, _, sd => sd
def runSem (f : Sem) (as : List AV) (sd : DEnv) : Option (DV × DEnv) := if (slotsOf as).Nodup then (argsOf sd as).bind fun ds => (f ds).bind fun p => if p.2.length = ds.length then some (p.1, backTo' as p.2 sd) else none else none
def dCall (f : Sem) (t : TAr) : TV := fun sd => (t sd).bind fun p => runSem f p.1 p.2
end
end DS
end

section
set_option Elab.async false
set_option linter.all false
set_option maxRecDepth 100000
set_option maxHeartbeats 1000000
namespace DS
open PySem PySem.Spec PyProof.Rows L2
theorem slot_mem : ∀ {as : List AV} {j i : Nat}, as[j]? = some (.s i) → i ∈ slotsOf as
  | [], j, i, h => by simp at h
  | a :: as, 0, i, h => by
    simp only [List.getElem?_cons_zero, Option.some.injEq] at h
    subst h; simp [slotsOf]
  | a :: as, j + 1, i, h => by
    have ih := slot_mem (as := as) (j := j) (i := i) (by simpa using h)
    cases a <;> simp [slotsOf, ih]
theorem slot_of_mem : ∀ {as : List AV} {i : Nat}, i ∈ slotsOf as → ∃ j : Nat, as[j]? = some (AV.s i)
  | [], i, h => by simp [slotsOf] at h
  | .v r :: as, i, h => by
    obtain ⟨j, e⟩ := slot_of_mem (as := as) (by simpa [slotsOf] using h)
    exact ⟨j + 1, by simpa using e⟩
  | .s k :: as, i, h => by
    simp only [slotsOf, List.mem_cons] at h
    rcases h with rfl | h
    · exact ⟨0, rfl⟩
    · obtain ⟨j, e⟩ := slot_of_mem (as := as) h
      exact ⟨j + 1, by simpa using e⟩
theorem slot_pos : ∀ {as : List AV} {j k i : Nat}, (slotsOf as).Nodup → as[j]? = some (.s i) → as[k]? = some (.s i) → j = k
  | [], j, k, i, _, h, _ => by simp at h
  | a :: as, 0, 0, i, _, _, _ => rfl
  | a :: as, 0, k + 1, i, n, h, h' => by
    simp only [List.getElem?_cons_zero, Option.some.injEq] at h
    subst h
    simp only [slotsOf, List.nodup_cons] at n
    exact (n.1 (slot_mem (j := k) (by simpa using h'))).elim
  | a :: as, j + 1, 0, i, n, h, h' => by
    simp only [List.getElem?_cons_zero, Option.some.injEq] at h'
    subst h'
    simp only [slotsOf, List.nodup_cons] at n
    exact (n.1 (slot_mem (j := j) (by simpa using h))).elim
  | a :: as, j + 1, k + 1, i, n, h, h' => by
    have n' : (slotsOf as).Nodup := by
      cases a with
      | v r => simpa [slotsOf] using n
      | s i => simp only [slotsOf, List.nodup_cons] at n; exact n.2
    have e := slot_pos (as := as) (j := j) (k := k) (i := i) n' (by simpa using h) (by simpa using h')
    rw [e]
theorem root_mem : ∀ {as : List AV} {vs : List V} {j : Nat} {d : D} {v : V}, as[j]? = some (.v (.ow d)) → vs[j]? = some v → v ∈ roots as vs
  | [], vs, j, d, v, h, _ => by simp at h
  | a :: as, [], j, d, v, _, h => by simp at h
  | a :: as, u :: vs, 0, d, v, h, h' => by
    simp only [List.getElem?_cons_zero, Option.some.injEq] at h h'
    subst h h'; simp [roots]
  | a :: as, u :: vs, j + 1, d, v, h, h' => by
    have ih := root_mem (as := as) (vs := vs) (j := j) (d := d) (v := v) (by simpa using h) (by simpa using h')
    match a with
    | .v (.ow _) => simp [roots, ih]
    | .v (.fz _) => simpa [roots] using ih
    | .s _ => simpa [roots] using ih
theorem root_pos : ∀ {as : List AV} {vs : List V} {j k : Nat} {d e : D} {v : V}, (roots as vs).Nodup → as[j]? = some (.v (.ow d)) → as[k]? = some (.v (.ow e)) → vs[j]? = some v → vs[k]? = some v → j = k
  | [], vs, j, k, d, e, v, _, h, _, _, _ => by simp at h
  | a :: as, [], j, k, d, e, v, _, _, _, h, _ => by simp at h
  | a :: as, u :: vs, 0, 0, d, e, v, _, _, _, _, _ => rfl
  | a :: as, u :: vs, 0, k + 1, d, e, v, n, h, h', h1, h2 => by
    simp only [List.getElem?_cons_zero, Option.some.injEq] at h h1
    subst h h1
    simp only [roots, List.nodup_cons] at n
    exact (n.1 (root_mem (j := k) (by simpa using h') (by simpa using h2))).elim
  | a :: as, u :: vs, j + 1, 0, d, e, v, n, h, h', h1, h2 => by
    simp only [List.getElem?_cons_zero, Option.some.injEq] at h' h2
    subst h' h2
    simp only [roots, List.nodup_cons] at n
    exact (n.1 (root_mem (j := j) (by simpa using h) (by simpa using h1))).elim
  | a :: as, u :: vs, j + 1, k + 1, d, e, v, n, h, h', h1, h2 => by
    have n' : (roots as vs).Nodup := by
      match a, n with
      | .v (.ow _), n => simp only [roots, List.nodup_cons] at n; exact n.2
      | .v (.fz _), n => simpa [roots] using n
      | .s _, n => simpa [roots] using n
    have e := root_pos (as := as) (vs := vs) (j := j) (k := k) n' (by simpa using h) (by simpa using h') (by simpa using h1) (by simpa using h2)
    rw [e]
theorem argsOf_at : ∀ {as : List AV} {sd : DEnv} {ds : List DV}, argsOf sd as = some ds → ds.length = as.length ∧ ∀ (j : Nat) (a : AV), as[j]? = some a → ∃ d, ds[j]? = some d ∧ argOf sd a = some d
  | [], sd, ds, h => by cases h; exact ⟨rfl, fun j a e => by simp at e⟩
  | a :: as, sd, ds, h => by
    obtain ⟨d, h1, h⟩ := bindS h
    obtain ⟨r, h2, h⟩ := bindS h
    cases h
    obtain ⟨l, q⟩ := argsOf_at h2
    refine ⟨by simp [l], fun j b e => ?_⟩
    cases j with
    | zero =>
      simp only [List.getElem?_cons_zero, Option.some.injEq] at e
      subst e; exact ⟨d, rfl, h1⟩
    | succ j => simpa using q j b (by simpa using e)
theorem backTo_len : ∀ {as : List AV} {ds : List DV} {sd : DEnv}, (backTo' as ds sd).length = sd.length
  | [], ds, sd => by simp [backTo']
  | .s i :: as, [], sd => by simp [backTo']
  | .v r :: as, [], sd => by simp [backTo']
  | .s i :: as, d :: ds, sd => by simp [backTo', backTo_len (as := as) (ds := ds)]
  | .v r :: as, d :: ds, sd => by simp [backTo', backTo_len (as := as) (ds := ds)]
theorem backTo_out : ∀ {as : List AV} {ds : List DV} {sd : DEnv} {i : Nat}, i ∉ slotsOf as → (backTo' as ds sd)[i]? = sd[i]?
  | [], ds, sd, i, _ => by simp [backTo']
  | .s k :: as, [], sd, i, _ => by simp [backTo']
  | .v r :: as, [], sd, i, _ => by simp [backTo']
  | .s k :: as, d :: ds, sd, i, h => by
    simp only [slotsOf, List.mem_cons, not_or] at h
    rw [backTo', List.getElem?_set_ne (fun e => h.1 e.symm), backTo_out h.2]
  | .v r :: as, d :: ds, sd, i, h => by
    rw [backTo', backTo_out (by simpa [slotsOf] using h)]
theorem backTo_in : ∀ {as : List AV} {ds : List DV} {sd : DEnv} {i j : Nat} {d : DV}, (slotsOf as).Nodup → as[j]? = some (.s i) → ds[j]? = some d → i < sd.length → (backTo' as ds sd)[i]? = some (some d)
  | [], ds, sd, i, j, d, _, h, _, _ => by simp at h
  | a :: as, [], sd, i, j, d, _, _, h, _ => by simp at h
  | a :: as, e :: ds, sd, i, 0, d, _, h, h', hi => by
    simp only [List.getElem?_cons_zero, Option.some.injEq] at h h'
    subst h h'
    rw [backTo', List.getElem?_set_self (by rw [backTo_len]; exact hi)]
  | .s k :: as, e :: ds, sd, i, j + 1, d, n, h, h', hi => by
    have hm : i ∈ slotsOf as := slot_mem (j := j) (by simpa using h)
    simp only [slotsOf, List.nodup_cons] at n
    rw [backTo', List.getElem?_set_ne (fun e => n.1 (by rw [e]; exact hm))]
    exact backTo_in n.2 (by simpa using h) (by simpa using h') hi
  | .v r :: as, e :: ds, sd, i, j + 1, d, n, h, h', hi => by
    rw [backTo']
    exact backTo_in (by simpa [slotsOf] using n) (by simpa using h) (by simpa using h') hi
theorem Paired.at2 {α β : Type} {R : α → β → Prop} : ∀ {xs : List α} {ys : List β}, Paired R xs ys → ∀ {j : Nat} {x : α} {y : β}, xs[j]? = some x → ys[j]? = some y → R x y
  | _, _, .nil, j, x, y, h, _ => by simp at h
  | _, _, .cons r t, 0, x, y, h, h' => by
    simp only [List.getElem?_cons_zero, Option.some.injEq] at h h'
    subst h h'; exact r
  | _, _, .cons r t, j + 1, x, y, h, h' => Paired.at2 t (j := j) (by simpa using h) (by simpa using h')

theorem map_some_at {α : Type} {l : List α} {j : Nat} {x : α} : (l.map some)[j]? = some (some x) ↔ l[j]? = some x := by
  rw [List.getElem?_map]
  cases l[j]? <;> simp
section
variable {c : RC} {G T H : Hp} {sd sd' : DEnv} {σ : L2.St} {as : List AV} {vs : List V} {f : Sem} {r : DV} {Q : VK} {E : XK}
theorem call_ok (S : StOk c G T sd σ H) (A : ArgsOk c G T sd σ H as vs) (e : runSem f as sd = some (r, sd'))
    (K : ∀ v G' H', Same G G' → StOk c G' T sd' σ H' → RepV c G' T H' r v → FreshV sd' σ r v → Q v H') : spD c f vs H Q E := by
  unfold runSem at e
  split at e
  case isFalse => cases e
  case isTrue hnd =>
  obtain ⟨ds, hds, e⟩ := bindS e
  obtain ⟨⟨r0, ds'⟩, hf, e⟩ := bindS e
  obtain ⟨hl, e⟩ := ite_some e
  have hl : ds'.length = ds.length := hl
  cases e
  obtain ⟨lA, qA⟩ := argsOf_at hds
  have lV : as.length = vs.length := A.all.length
  -- what stands at a place
  have hat : ∀ {j : Nat} {dv : DV}, ds[j]? = some dv → ∃ a v, as[j]? = some a ∧ vs[j]? = some v ∧ argOf sd a = some dv ∧ AOk c G T sd σ H a v := fun {j dv} h => by
    have hj : j < ds.length := (List.getElem?_eq_some_iff.mp h).1
    have h1 : as[j]? = some (as[j]'(by omega)) := by simp
    have h2 : vs[j]? = some (vs[j]'(by omega)) := by simp
    obtain ⟨d, h3, h4⟩ := qA j _ h1
    rw [h] at h3; cases h3
    exact ⟨_, _, h1, h2, h4, Paired.at2 A.all h1 h2⟩
  generalize hT2 : guardT T H sd σ (slotsOf as) = T2
  have sT2 : Same T T2 := by rw [← hT2]; exact S.guardSub
  -- an owned thing that is handed in
  have own : ∀ {j : Nat} {d : D} {a : AV} {v : V}, as[j]? = some a → argOf sd a = some (.ow d) → AOk c G T sd σ H a v → RepV c G T2 H (.ow d) v ∧ ((∃ d', a = .v (.ow d') ∧ Fresh sd σ v) ∨ ∃ i, a = .s i ∧ sd[i]? = some (some (.ow d)) ∧ σ[i]? = some (some v)) := fun {j d a v} h1 h2 h3 => by
    cases a with
    | v r1 =>
      simp only [argOf, Option.some.injEq] at h2
      subst h2
      obtain ⟨⟨p, rfl, a1, a2, a3⟩, fr⟩ := h3
      refine ⟨⟨p, rfl, a1, ?_, a3⟩, .inl ⟨d, rfl, fr⟩⟩
      rw [← hT2, guardT_out fun i d' e1 _ e2 => fr i d' e1 e2]
      exact a2
    | s i =>
      obtain ⟨hv, dv, hdv⟩ := h3
      simp only [argOf, hdv, Option.some.injEq] at h2
      subst h2
      obtain ⟨p, rfl, a1, a2, a3⟩ := S.at_ hdv hv
      refine ⟨⟨p, rfl, a1, ?_, a3⟩, .inr ⟨i, rfl, hdv, hv⟩⟩
      rw [← hT2, guardT_out fun i' d' e1 e3 e2 => e3 (by rw [← S.inj i i' d d' (.ref p) hdv e1 hv e2]; exact slot_mem h1)]
      exact a2
  have S2 : StOk c G T2 (ds.map some) (vs.map some) H := by
    refine ⟨S.same, by rw [← hT2]; exact S.guardSame, fun a o => by rw [← hT2]; exact S.guardApart a o, by simp [lA, lV], fun j dv h => ?_, fun j k d e v h1 h2 h3 h4 => ?_⟩
    · rw [map_some_at] at h
      obtain ⟨a, v, h1, h2, h3, h4⟩ := hat h
      refine ⟨v, map_some_at.mpr h2, ?_⟩
      cases dv with
      | ow d => exact (own h1 h3 h4).1
      | fz d =>
        cases a with
        | v r1 =>
          simp only [argOf, Option.some.injEq] at h3
          subst h3; exact h4.1
        | s i =>
          obtain ⟨hv, dv, hdv⟩ := h4
          simp only [argOf, hdv, Option.some.injEq] at h3
          subst h3
          exact S.at_ hdv hv
    · rw [map_some_at] at h1 h2 h3 h4
      obtain ⟨a, u, a1, a2, a3, a4⟩ := hat h1
      obtain ⟨b, w, b1, b2, b3, b4⟩ := hat h2
      rw [h3] at a2; cases a2
      rw [h4] at b2; cases b2
      rcases (own a1 a3 a4).2 with ⟨d1, rfl, f1⟩ | ⟨i, rfl, i1, i2⟩
      · rcases (own b1 b3 b4).2 with ⟨d2, rfl, f2⟩ | ⟨k', rfl, k1, k2⟩
        · exact root_pos A.nd a1 b1 h3 h4
        · exact (f1 _ _ k1 k2).elim
      · rcases (own b1 b3 b4).2 with ⟨d2, rfl, f2⟩ | ⟨k', rfl, k1, k2⟩
        · exact (f2 _ _ i1 i2).elim
        · have e := S.inj i k' d e v i1 k1 i2 k2
          subst e
          exact slot_pos hnd a1 b1
  refine ⟨G, T2, ds, r0, ds', S2, hf, hl, fun v G' H' s S' rv fv => ?_⟩
  -- behind the call
  have unp : ∀ {i : Nat} {d : D} {p : Addr}, sd[i]? = some (some (.ow d)) → i ∉ slotsOf as → σ[i]? = some (some (.ref p)) → T2 p = H p ∧ ∃ o, H p = some o := fun {i d p} h1 h2 h3 => by
    obtain ⟨w, e1, q, e2, _, _, a3⟩ := S.slots i _ h1
    rw [h3] at e1; cases e1; cases e2
    exact ⟨by rw [← hT2]; exact guardT_in h1 h2 h3, a3.ex⟩
  -- a slot behind the call
  have slotB : ∀ {i : Nat} {dv : DV}, (backTo' as ds' sd)[i]? = some (some dv) → (∃ j : Nat, as[j]? = some (AV.s i) ∧ (ds'.map some)[j]? = some (some dv) ∧ ∃ v, vs[j]? = some v ∧ σ[i]? = some (some v)) ∨ (i ∉ slotsOf as ∧ sd[i]? = some (some dv)) := fun {i dv} h => by
    by_cases hm : i ∈ slotsOf as
    · obtain ⟨j, hj⟩ := slot_of_mem hm
      have hjl : j < as.length := (List.getElem?_eq_some_iff.mp hj).1
      have h2 : vs[j]? = some (vs[j]'(by omega)) := by simp
      have h4 : ds'[j]? = some (ds'[j]'(by omega)) := by simp
      have h3 : AOk c G T sd σ H (.s i) _ := Paired.at2 A.all hj h2
      obtain ⟨hv, dv0, hdv⟩ := h3
      rw [backTo_in hnd hj h4 (List.getElem?_eq_some_iff.mp hdv).1] at h
      refine .inl ⟨j, hj, ?_, _, h2, hv⟩
      rw [map_some_at, h4]
      cases h; rfl
    · exact .inr ⟨hm, by rw [← backTo_out hm]; exact h⟩
  have SB : StOk c G' T (backTo' as ds' sd) σ H' := by
    refine ⟨S'.same, Same.tr sT2 S'.sameT, fun a o e => S'.apart a o (sT2 a o e), by rw [backTo_len]; exact S.len, fun i dv h => ?_, fun i k d e u h1 h2 h3 h4 => ?_⟩
    · rcases slotB h with ⟨j, hj, hd, v, hv, hσ⟩ | ⟨hm, h⟩
      · refine ⟨v, hσ, (S'.at_ hd (map_some_at.mpr hv)).unguard sT2⟩
      · obtain ⟨v, e1, rr⟩ := S.slots i dv h
        refine ⟨v, e1, ?_⟩
        cases dv with
        | fz d => exact Rep.mono s _ _ rr
        | ow d =>
          obtain ⟨p, rfl, a1, a2, a3⟩ := rr
          obtain ⟨e2, o, ho⟩ := unp h hm e1
          have ht : T2 p = some o := by rw [e2, ho]
          exact ⟨p, rfl, S'.apart p o ht, a2, a3.mono s ((S'.sameT p o ht).trans ho.symm)⟩
    · have key : ∀ {i k : Nat} {d e : D} {u : V}, (∃ j : Nat, as[j]? = some (AV.s i) ∧ (ds'.map some)[j]? = some (some (DV.ow d)) ∧ ∃ v, vs[j]? = some v ∧ σ[i]? = some (some v)) → (k ∉ slotsOf as ∧ sd[k]? = some (some (.ow e))) → σ[i]? = some (some u) → σ[k]? = some (some u) → False := fun {i k d e u} x y h3 h4 => by
        obtain ⟨j, hj, hd, v, hv, hσ⟩ := x
        rw [hσ] at h3; cases h3
        obtain ⟨p, rfl, _, a2, _⟩ := S'.at_ hd (map_some_at.mpr hv)
        obtain ⟨e2, o, ho⟩ := unp y.2 y.1 h4
        rw [e2, ho] at a2; cases a2
      rcases slotB h1 with x | x
      · rcases slotB h2 with y | y
        · obtain ⟨j, hj, hd, v, hv, hσ⟩ := x
          obtain ⟨j', hj', hd', v', hv', hσ'⟩ := y
          rw [hσ] at h3; cases h3
          rw [hσ'] at h4; cases h4
          have ej := S'.inj j j' _ _ _ hd hd' (map_some_at.mpr hv) (map_some_at.mpr hv')
          subst ej
          rw [hj] at hj'; cases hj'; rfl
        · exact (key x y h3 h4).elim
      · rcases slotB h2 with y | y
        · exact (key y x h4 h3).elim
        · exact S.inj i k d e u x.2 y.2 h3 h4
  refine K v G' H' s SB (rv.unguard sT2) ?_
  cases r0 with
  | fz d => exact True.intro
  | ow d =>
    intro i d' h1 h2
    obtain ⟨p, rfl, _, a2, _⟩ := rv
    rcases slotB h1 with ⟨j, hj, hd, v, hv, hσ⟩ | ⟨hm, h⟩
    · rw [hσ] at h2; cases h2
      exact fv j d' hd (map_some_at.mpr hv)
    · obtain ⟨e2, o, ho⟩ := unp h hm h2
      rw [e2, ho] at a2; cases a2
end

section
variable {X : Cx} {fx : List Nat} {CX : CXT} {k : Nat} {f C : Addr} {fd : FuncData} {ps : List Str} {sm : Sem}
/-- default values: plain constants -/
def DefOk (c : RC) (dvs : List V) (dds : List D) : Prop := ∀ G, RepL c G dds dvs
def aDef (dds : List D) (t : TAr) : TAr := fun sd => (t sd).bind fun p => some (p.1 ++ dds.map fun d => .v (.fz d), p.2)
theorem AOk_defs {c : RC} {G T H : Hp} {sd : DEnv} {σ : L2.St} : ∀ {dds : List D} {dvs : List V}, RepL c G dds dvs → Paired (AOk c G T sd σ H) (dds.map fun d => .v (.fz d)) dvs
  | [], dvs, h => by simp only [RepL] at h; subst h; exact .nil
  | d :: dds, dvs, h => by
    obtain ⟨v, r, rfl, h1, h2⟩ := h.uncons
    exact .cons ⟨h1, True.intro⟩ (AOk_defs h2)
theorem paired_app {α β : Type} {R : α → β → Prop} : ∀ {xs us : List α} {ys ws : List β}, Paired R xs ys → Paired R us ws → Paired R (xs ++ us) (ys ++ ws)
  | _, _, _, _, .nil, h => h
  | _, _, _, _, .cons r t, h => .cons r (paired_app t h)
theorem roots_app {c : RC} {G T H : Hp} {sd : DEnv} {σ : L2.St} : ∀ {as : List AV} {vs : List V} {dds : List D} {dvs : List V}, Paired (AOk c G T sd σ H) as vs → dds.length = dvs.length → roots (as ++ dds.map fun d => .v (.fz d)) (vs ++ dvs) = roots as vs
  | _, _, [], [], .nil, _ => by simp [roots]
  | _, _, d :: dds, v :: dvs, .nil, h => by
    have ih := roots_app (c := c) (G := G) (T := T) (H := H) (sd := sd) (σ := σ) (as := []) (vs := []) (dds := dds) (dvs := dvs) .nil (by simpa using h)
    simpa [roots] using ih
  | a :: as, v :: vs, dds, dvs, .cons r t, h => by
    have ih := roots_app t h
    match a with
    | .v (.ow _) => simp only [List.cons_append, roots, ih]
    | .v (.fz _) => simp only [List.cons_append, roots, ih]
    | .s _ => simp only [List.cons_append, roots, ih]
theorem call_read {t : TAr} {dvs : List V} {dds : List D} {E : XK} (hd : DefOk (rc X) dvs dds) {σ : L2.St} {H : Hp} {Q : VK} (h : liftV (rc X) (dCall sm (aDef dds t)) σ H Q) : tCall (spD (rc X) sm) dvs E (liftAr (rc X) t) σ H Q := by
  obtain ⟨G, T, sd, r, sd', S, e1, k⟩ := h
  obtain ⟨p, hp, e1⟩ := bindS e1
  obtain ⟨q, hq, hp⟩ := bindS hp
  cases hp
  refine ⟨G, T, sd, q.1, q.2, S, hq, fun vs G1 H1 s1 S1 A1 => ?_⟩
  have rd := hd G1
  refine call_ok S1 ⟨paired_app A1.all (AOk_defs rd), ?_⟩ e1 fun v G2 H2 s2 S2 r2 f2 => k v G2 H2 (Same.tr s1 s2) S2 r2 f2
  rw [roots_app A1.all rd.length.symm]
  exact A1.nd
theorem dv_call {x : Str} {p pos : Pos} {e : Expr} {es : List Expr} {t : TAr} {dvs : List V} {dds : List D} {ds : List Value} (F : FnOk X.prog X.w X.K X.mg X.base CX0 k f fd ps (spD (rc X) sm)) (hr : Room k X.A) (hg : Gl X x) (hm : X.mg x = some (.ref f)) (hk : PySem.W.keepIn X.K (.ref f) = true) (hb : Binds X.K fd ps ds) (hd : Vals dvs ds) (hdd : DefOk (rc X) dvs dds)
    (ha : DAr X (e :: es) t) (hdb : (x == ("__debug__" : Str)) = false := by decide) (he : starEach (e :: es) X.env = (false, eval e X.env) :: starEach es X.env := by rfl) (hpl : (backTo pos (starEach es X.env)).any (·.1) = false := by rfl) :
    DVE X (.Call (.Name x p) (e :: es) [] pos) (dCall sm (aDef dds t)) :=
  PEi (pe_call F hr hg hm hk hb hd (E := E0) pass0 ha hdb he hpl) fun σ H Q h => call_read hdd h
theorem dv_call0 {x : Str} {p pos : Pos} {dvs : List V} {dds : List D} {ds : List Value} (F : FnOk X.prog X.w X.K X.mg X.base CX0 k f fd ps (spD (rc X) sm)) (hr : Room k X.A) (hg : Gl X x) (hm : X.mg x = some (.ref f)) (hk : PySem.W.keepIn X.K (.ref f) = true) (hb : Binds X.K fd ps ds) (hd : Vals dvs ds) (hdd : DefOk (rc X) dvs dds)
    (hdb : (x == ("__debug__" : Str)) = false := by decide) : DVE X (.Call (.Name x p) [] [] pos) (dCall sm (aDef dds aNil)) :=
  PEi (pe_call0 F hr hg hm hk hb hd (E := E0) pass0 hdb) fun σ H Q ⟨G, T, sd, r, sd', S, e1, k⟩ => by
    obtain ⟨p, hp, e1⟩ := bindS e1
    obtain ⟨q, hq, hp⟩ := bindS hp
    cases hp; cases hq
    have rd := hdd G
    have A : ArgsOk (rc X) G T sd σ H ([] ++ dds.map fun d => .v (.fz d)) ([] ++ dvs) := ⟨paired_app .nil (AOk_defs rd), by rw [roots_app (c := rc X) (G := G) (T := T) (H := H) (sd := sd) (σ := σ) .nil rd.length.symm]; exact List.nodup_nil⟩
    exact call_ok (E := E0) S A e1 fun v G2 H2 s2 S2 r2 f2 => k v G2 H2 s2 S2 r2 f2
end

/-! ### a def's function, by its body -/
/-- what the parameters hold behind the body: those that are never stored anew; of the others what was handed in, if it was frozen -/
def wbs (fx : List Nat) (sd : DEnv) : Nat → List DV → Option (List DV)
  | _, [] => some []
  | i, d :: ds => (if i ∈ fx then (match sd[i]? with | some (some dv) => some dv | _ => none) else (match d with | .fz x => some (.fz x) | .ow _ => none)).bind fun x => (wbs fx sd (i + 1) ds).bind fun r => some (x :: r)
def semOf (n N : Nat) (fx : List Nat) (t : TM) : Sem := fun ds => if ds.length = n then (t (ds.map some ++ List.replicate (N - n) none)).bind fun p => match p.1 with
    | .rt r => (wbs fx p.2 0 ds).bind fun w => some (r, w)
    | .nx => (wbs fx p.2 0 ds).bind fun w => some (.fz .non, w)
    | _ => none
  else none
end DS
end

section
set_option Elab.async false
set_option linter.all false
set_option maxRecDepth 100000
set_option maxHeartbeats 1000000
namespace DS
open PySem PySem.Spec PyProof.Rows L2
theorem wbs_at {fx : List Nat} {sd : DEnv} : ∀ {ds : List DV} {i : Nat} {w : List DV}, wbs fx sd i ds = some w → w.length = ds.length ∧ ∀ (j : Nat) (dv : DV), w[j]? = some dv → (i + j ∈ fx ∧ sd[i + j]? = some (some dv)) ∨ ∃ x, dv = .fz x ∧ ds[j]? = some (.fz x)
  | [], i, w, h => by cases h; exact ⟨rfl, fun j dv e => by simp at e⟩
  | d :: ds, i, w, h => by
    obtain ⟨x, h1, h⟩ := bindS h
    obtain ⟨r, h2, h⟩ := bindS h
    cases h
    obtain ⟨l, q⟩ := wbs_at h2
    refine ⟨by simp [l], fun j dv e => ?_⟩
    cases j with
    | zero =>
      simp only [List.getElem?_cons_zero, Option.some.injEq] at e
      subst e
      split at h1
      · rename_i hi
        split at h1
        · rename_i dw hw
          cases h1
          exact .inl ⟨hi, hw⟩
        · cases h1
      · split at h1
        · cases h1; exact .inr ⟨_, rfl, rfl⟩
        · cases h1
    | succ j =>
      have q' := q j dv (by simpa using e)
      have e1 : i + 1 + j = i + (j + 1) := by omega
      rw [e1] at q'
      simpa using q'
section
variable {c : RC} {G T H : Hp} {σ : L2.St}
theorem StOk.ext {ds : List DV} {vs : List V} (S : StOk c G T (ds.map some) (vs.map some) H) (n m : Nat) (h : n = m) : StOk c G T (ds.map some ++ List.replicate n none) (vs.map some ++ List.replicate m none) H := by
  have lv : ds.length = vs.length := by have := S.len; simpa using this
  have cut : ∀ {i : Nat} {dv : DV}, (ds.map some ++ List.replicate n none)[i]? = some (some dv) → (ds.map some)[i]? = some (some dv) := fun {i dv} e => by
    by_cases hi : i < ds.length
    · rw [List.getElem?_append_left (by simpa using hi)] at e; exact e
    · rw [List.getElem?_append_right (by simpa using hi), List.getElem?_replicate] at e
      split at e <;> simp at e
  have up : ∀ {i : Nat} {v : V}, (vs.map some)[i]? = some (some v) → (vs.map some ++ List.replicate m none)[i]? = some (some v) := fun {i v} e => by
    have hi := (List.getElem?_eq_some_iff.mp e).1
    rw [List.getElem?_append_left hi]; exact e
  have dn : ∀ {i : Nat} {v : V}, (vs.map some ++ List.replicate m none)[i]? = some (some v) → (vs.map some)[i]? = some (some v) := fun {i v} e => by
    by_cases hi : i < vs.length
    · rw [List.getElem?_append_left (by simpa using hi)] at e; exact e
    · rw [List.getElem?_append_right (by simpa using hi), List.getElem?_replicate] at e
      split at e <;> simp at e
  refine ⟨S.same, S.sameT, S.apart, by simp [lv, h], fun i dv e => ?_, fun i j d e v h1 h2 h3 h4 => S.inj i j d e v (cut h1) (cut h2) (dn h3) (dn h4)⟩
  obtain ⟨v, e1, r⟩ := S.slots i dv (cut e)
  exact ⟨v, up e1, r⟩
end
section
variable {P : Program} {w : World} {K : PySem.W.Frag} {mg : Str → Option Value} {base : Heap}
theorem run_body {c : RC} {n : Nat} {N : List Str} {fx : List Nat} {t : TM} {vs : List V} {H : Hp} {Q : VK} {E : XK} (h : spD c (semOf n N.length fx t) vs H Q E) (hN : n ≤ N.length) (hfx : ∀ i, i ∈ fx → i < n) : vs.length = n ∧ liftS c fx t { nx := fun _ H' => Q .non H', rt := Q } (start N vs) H := by
  obtain ⟨G, T, ds, r, ds', S, e, hl, k⟩ := h
  have lv : ds.length = vs.length := by have := S.len; simpa using this
  unfold semOf at e
  split at e
  case isFalse => cases e
  case isTrue hn =>
  refine ⟨by rw [← lv, hn], ?_⟩
  obtain ⟨⟨o, sd'⟩, hp, e⟩ := bindS e
  have S1 : StOk c G T (ds.map some ++ List.replicate (N.length - n) none) (start N vs) H := S.ext (N.length - n) (N.length - vs.length) (by rw [← lv, hn])
  refine ⟨G, T, _, o, sd', S1, hp, fun σ' G' H' s fxx S' => ?_⟩
  have fin : ∀ {wv : List DV}, wbs fx sd' 0 ds = some wv → StOk c G' T (wv.map some) (vs.map some) H' ∧ ∀ (r : DV) (v : V), FreshV sd' σ' r v → FreshV (wv.map some) (vs.map some) r v := fun {wv} hw => by
    obtain ⟨l, q⟩ := wbs_at hw
    -- an owned thing comes of a slot that was never stored anew
    have owf : ∀ {j : Nat} {d : D}, wv[j]? = some (.ow d) → j ∈ fx ∧ sd'[j]? = some (some (.ow d)) := fun {j d} e => by
      rcases q j _ e with ⟨h1, h2⟩ | ⟨x, h1, _⟩
      · rw [Nat.zero_add] at h1 h2; exact ⟨h1, h2⟩
      · cases h1
    have sg : ∀ {j : Nat} {v : V}, j ∈ fx → vs[j]? = some v → σ'[j]? = some (some v) := fun {j v} h1 h2 => by
      rw [fxx.1 j h1]
      unfold L2.start
      have hj : j < vs.length := (List.getElem?_eq_some_iff.mp h2).1
      rw [List.getElem?_append_left (by simpa using hj)]
      exact map_some_at.mpr h2
    refine ⟨⟨S'.same, S'.sameT, S'.apart, by simp [l, lv], fun j dv e => ?_, fun i j d e v h1 h2 h3 h4 => ?_⟩, fun r v f => ?_⟩
    · rw [map_some_at] at e
      have hj : j < vs.length := by rw [← lv, ← l]; exact (List.getElem?_eq_some_iff.mp e).1
      have hv : vs[j]? = some (vs[j]'hj) := by simp [hj]
      refine ⟨vs[j]'hj, map_some_at.mpr hv, ?_⟩
      rcases q j _ e with ⟨h1, h2⟩ | ⟨x, rfl, h2⟩
      · rw [Nat.zero_add] at h1 h2
        exact S'.at_ h2 (sg h1 hv)
      · exact Rep.mono s _ _ (S.at_ (map_some_at.mpr h2) (map_some_at.mpr hv) : RepV c G T H (.fz x) _)
    · rw [map_some_at] at h1 h2 h3 h4
      obtain ⟨a1, a2⟩ := owf h1
      obtain ⟨b1, b2⟩ := owf h2
      exact S'.inj i j d e v a2 b2 (sg a1 h3) (sg b1 h4)
    · cases r with
      | fz d => exact True.intro
      | ow d =>
        intro j d' h1 h2
        rw [map_some_at] at h1 h2
        obtain ⟨a1, a2⟩ := owf h1
        exact f j d' a2 (sg a1 h2)
  cases o with
  | nx =>
    obtain ⟨wv, hw, e⟩ := bindS e
    cases e
    obtain ⟨S2, f2⟩ := fin hw
    exact k .non G' H' s S2 (show Rep c G' .non .non from Rep.non c G') True.intro
  | rt r0 =>
    obtain ⟨wv, hw, e⟩ := bindS e
    cases e
    obtain ⟨S2, f2⟩ := fin hw
    exact fun v rv fv => k v G' H' s S2 rv (f2 _ v fv)
  | bk => cases e
  | ct => cases e
/-- THE RULE for a def -/
theorem fnD {x qual : Str} {st : Stmt} {f : Addr} {fd : FuncData} {N ps : List Str} {fx : List Nat} {t : TM} {k : Nat} (F : Fun K x qual st f fd) (S : FnScope N ps (defScope st)) (hN : ps.length ≤ N.length) (hfx : ∀ i, i ∈ fx → i < ps.length)
    (body : ∀ (cdv : Value) (A : Around) (outer : List Env) (s : Shared) (H : Hp) (E : XK), Room k (A.deeper (envOfC qual (defScope st) s.heap.objs.size f cdv)) → DSs (cxOf CX0 P w K mg base N qual (defScope st) f cdv A outer s H E).nox fx (defBody st) t) :
    FnOk P w K mg base CX0 (k + 1) f fd ps (spD ⟨P, w, K, mg⟩ (semOf ps.length N.length fx t)) :=
  F.ok S (fun vs H Q E h => (run_body h hN hfx).1) fun cdv A outer s H vs Q E hr h => ⟨_, body cdv A outer s H E hr, (run_body h hN hfx).2⟩
end
/-- the function may be told otherwise -/
theorem FnOk.as {P : Program} {w : World} {K : PySem.W.Frag} {mg : Str → Option Value} {base : Heap} {CX : CXT} {k : Nat} {f : Addr} {fd : FuncData} {ps : List Str} {a b : Sem} (F : FnOk P w K mg base CX k f fd ps (spD ⟨P, w, K, mg⟩ a))
    (h : ∀ ds r ds', b ds = some (r, ds') → a ds = some (r, ds')) : FnOk P w K mg base CX k f fd ps (spD ⟨P, w, K, mg⟩ b) :=
  F.imp fun vs H Q E ⟨G, T, ds, r, ds', S, e, z⟩ => ⟨G, T, ds, r, ds', S, h _ _ _ e, z⟩
end DS
end

section
set_option Elab.async false
set_option linter.all false
set_option maxRecDepth 100000
set_option maxHeartbeats 1000000
namespace DS
open PySem PySem.Spec PyProof.Rows L2

/-! ### a thing that is read where it stands -/
def View (c : RC) (G H : Hp) (d : D) (v : V) : Prop := Rep c G d v ∨ ∃ p, v = .ref p ∧ RepO c G H d p
section
variable {c : RC} {G T H : Hp} {sd : DEnv} {σ : L2.St}
theorem RepV.view {r : DV} {v : V} (h : RepV c G T H r v) : View c G H r.d v := by
  cases r with
  | fz d => exact .inl h
  | ow d => obtain ⟨p, e, _, _, a3⟩ := h; exact .inr ⟨p, e, a3⟩
theorem View.i {i : Int} {v : V} (h : View c G H (.int i) v) : v = .int i := by
  rcases h with h | ⟨p, _, h⟩
  · exact h.i
  · exact h.elim
theorem View.b {i : Bool} {v : V} (h : View c G H (.bl i) v) : v = .bl i := by
  rcases h with h | ⟨p, _, h⟩
  · exact h.b
  · exact h.elim
theorem View.s {i : Str} {v : V} (h : View c G H (.str i) v) : v = .str i := by
  rcases h with h | ⟨p, _, h⟩
  · exact h.s
  · exact h.elim
theorem View.n {v : V} (h : View c G H .non v) : v = .non := by
  rcases h with h | ⟨p, _, h⟩
  · simpa only [Rep] using h
  · exact h.elim
theorem View.t (s : Same G H) {ds : List D} {v : V} (h : View c G H (.tup ds) v) : ∃ a vs, v = .ref a ∧ SqT c.K H a vs ∧ RepL c G ds vs := by
  rcases h with h | ⟨p, _, h⟩
  · obtain ⟨a, vs, e, q, r⟩ := h.t; exact ⟨a, vs, e, SqT.mono q s, r⟩
  · exact h.elim
theorem View.l (s : Same G H) {ds : List D} {v : V} (h : View c G H (.lst ds) v) : ∃ a vs, v = .ref a ∧ H a = some (.lst vs) ∧ RepL c G ds vs := by
  rcases h with h | ⟨p, e, vs, q, r⟩
  · obtain ⟨a, vs, e, q, r⟩ := h.l; exact ⟨a, vs, e, s _ _ q, r⟩
  · exact ⟨p, vs, e, q, r⟩
theorem View.k (s : Same G H) {ds : List D} {v : V} (h : View c G H (.kl ds) v) : ∃ a vs, v = .ref a ∧ SqL c.K H a vs ∧ RepL c G ds vs := by
  rcases h with h | ⟨p, _, h⟩
  · obtain ⟨a, vs, e, q, r⟩ := h.k; exact ⟨a, vs, e, SqL.mono q s, r⟩
  · exact h.elim
theorem View.dc (s : Same G H) {its : List D} {v : V} (h : View c G H (.dct its) v) : ∃ a es, v = .ref a ∧ DA c H a es ∧ RepI c G its es := by
  rcases h with h | ⟨p, e, es, q, r⟩
  · simp only [Rep] at h; obtain ⟨a, es, e, q, r⟩ := h; exact ⟨a, es, e, q.mono s, r⟩
  · exact ⟨p, es, e, q, r⟩
theorem View.is (s : Same G H) {n : Str} {ns : List Str} {ds : List D} {v : V} (h : View c G H (.ins n ns ds) v) : ∃ a C dx vs, v = .ref a ∧ c.mg n = some (.ref C) ∧ H a = some (.ins C dx (ns.zip vs)) ∧ ns.length = vs.length ∧ RepL c G ds vs := by
  rcases h with h | ⟨p, e, C, dx, vs, m, q, l, r⟩
  · simp only [Rep] at h; obtain ⟨a, C, dx, vs, e, m, q, l, r⟩ := h; exact ⟨a, C, dx, vs, e, m, s _ _ q, l, r⟩
  · exact ⟨p, C, dx, vs, e, m, q, l, r⟩
abbrev Views (c : RC) (G H : Hp) : List D → List V → Prop := Paired (View c G H)
theorem views_of {as : List AV} {vs : List V} (S : StOk c G T sd σ H) (A : Paired (AOk c G T sd σ H) as vs) : ∀ {ds : List DV}, argsOf sd as = some ds → Views c G H (ds.map DV.d) vs := by
  induction A with
  | nil => intro ds h; cases h; exact .nil
  | @cons a v as vs h t ih =>
    intro ds e
    obtain ⟨d, h1, e⟩ := bindS e
    obtain ⟨r, h2, e⟩ := bindS e
    cases e
    refine .cons ?_ (ih h2)
    cases a with
    | v r1 => simp only [argOf, Option.some.injEq] at h1; subst h1; exact h.1.view
    | s i =>
      obtain ⟨hv, dv, hdv⟩ := h
      simp only [argOf, hdv, Option.some.injEq] at h1
      subst h1; exact (S.at_ hdv hv).view
end

/-! ### built-in calls: by data -/
abbrev FB := List D → Option DV
def liftB (c : RC) (g : FB) : List V → Hp → VK → Prop := fun vs H Q => ∃ G T sd σ ds r, StOk c G T sd σ H ∧ Views c G H ds vs ∧ g ds = some r ∧ ∀ w G' H', Same G G' → StOk c G' T sd σ H' → RepV c G' T H' r w → FreshV sd σ r w → Q w H'
def dBI (g : FB) (t : TAr) : TV := fun sd => (t sd).bind fun p => (argsOf p.2 p.1).bind fun ds => (g (ds.map DV.d)).bind fun r => some (r, p.2)
section
variable {X : Cx} {fx : List Nat}
theorem bi_read {g : FB} {t : TAr} {σ : L2.St} {H : Hp} {Q : VK} (h : liftV (rc X) (dBI g t) σ H Q) : liftAr (rc X) t σ H fun vs H1 => liftB (rc X) g vs H1 Q := by
  obtain ⟨G, T, sd, r, sd', S, e1, k⟩ := h
  obtain ⟨p, hp, e1⟩ := bindS e1
  obtain ⟨ds, hds, e1⟩ := bindS e1
  obtain ⟨r1, hr, e1⟩ := bindS e1
  cases e1
  exact ⟨G, T, sd, p.1, p.2, S, hp, fun vs G1 H1 s1 S1 A1 => ⟨G1, T, p.2, σ, ds.map DV.d, r, S1, views_of S1 A1.all hds, hr, fun w G2 H2 s2 S2 r2 f2 => k w G2 H2 (Same.tr s1 s2) S2 r2 f2⟩⟩
theorem dv_bi {id : String} {g : FB} {x : Str} {p pos : Pos} {e : Expr} {es : List Expr} {t : TAr} (hc : CallR X (.builtin id) (liftB (rc X) g)) (hg : Gl X x) (hm : X.mg x = none) (hv : bootBuiltins x = some (.builtin id)) (ha : DAr X (e :: es) t) (hn : x ≠ "__name__" := by decide) (hdb : (x == ("__debug__" : Str)) = false := by decide)
    (he : starEach (e :: es) X.env = (false, eval e X.env) :: starEach es X.env := by rfl) (hpl : (backTo pos (starEach es X.env)).any (·.1) = false := by rfl) : DVE X (.Call (.Name x p) (e :: es) [] pos) (dBI g t) :=
  PEi (pe_callB hc hg hm hv ha hn hdb he hpl) fun σ H Q h => bi_read h
theorem dv_ty {T : String} {g : FB} {x : Str} {p pos : Pos} {e : Expr} {es : List Expr} {t : TAr} (hc : CallR X (.type T) (liftB (rc X) g)) (hg : Gl X x) (hm : X.mg x = none) (hv : bootBuiltins x = some (.type T)) (ha : DAr X (e :: es) t) (hn : x ≠ "__name__" := by decide) (hdb : (x == ("__debug__" : Str)) = false := by decide)
    (he : starEach (e :: es) X.env = (false, eval e X.env) :: starEach es X.env := by rfl) (hpl : (backTo pos (starEach es X.env)).any (·.1) = false := by rfl) : DVE X (.Call (.Name x p) (e :: es) [] pos) (dBI g t) :=
  PEi (pe_callTy hc hg hm hv ha hn hdb he hpl) fun σ H Q h => bi_read h
def absB : FB
  | [.int i] => some (.fz (.int (if i < 0 then -i else i)))
  | _ => none
theorem Views.one {c : RC} {G H : Hp} {d : D} {vs : List V} (h : Views c G H [d] vs) : ∃ v, vs = [v] ∧ View c G H d v := by
  cases h with | cons r t => cases t; exact ⟨_, rfl, r⟩
theorem Views.two {c : RC} {G H : Hp} {d e : D} {vs : List V} (h : Views c G H [d, e] vs) : ∃ v u, vs = [v, u] ∧ View c G H d v ∧ View c G H e u := by
  cases h with | cons r t => cases t with | cons r2 t => cases t; exact ⟨_, _, rfl, r, r2⟩
theorem ca_abs : CallR X (.builtin "abs") (liftB (rc X) absB) := CallRi call_abs fun vs H Q ⟨G, T, sd, σ, ds, r, S, V, e, k⟩ => by
  unfold absB at e
  split at e
  · cases e
    obtain ⟨v, rfl, h⟩ := V.one
    exact ⟨_, by rw [h.i], k _ G H Same.refl S (Rep.int (rc X) G _) True.intro⟩
  · cases e
def maxB : FB
  | [.int i, .int j] => some (.fz (.int (if j > i then j else i)))
  | _ => none
theorem ca_max (hc : X.calm = true) : CallR X (.builtin "max") (liftB (rc X) maxB) := CallRi (call_max2 hc) fun vs H Q ⟨G, T, sd, σ, ds, r, S, V, e, k⟩ => by
  unfold maxB at e
  split at e
  · cases e
    obtain ⟨v, u, rfl, h, h2⟩ := V.two
    exact ⟨_, _, by rw [h.i, h2.i], k _ G H Same.refl S (Rep.int (rc X) G _) True.intro⟩
  · cases e
def minB : FB
  | [.int i, .int j] => some (.fz (.int (if j < i then j else i)))
  | _ => none
theorem ca_min (hc : X.calm = true) : CallR X (.builtin "min") (liftB (rc X) minB) := CallRi (call_min2 hc) fun vs H Q ⟨G, T, sd, σ, ds, r, S, V, e, k⟩ => by
  unfold minB at e
  split at e
  · cases e
    obtain ⟨v, u, rfl, h, h2⟩ := V.two
    exact ⟨_, _, by rw [h.i, h2.i], k _ G H Same.refl S (Rep.int (rc X) G _) True.intro⟩
  · cases e
def intB : FB
  | [.int i] => some (.fz (.int i))
  | [.bl b] => some (.fz (.int (if b then 1 else 0)))
  | _ => none
theorem ca_int : CallR X (.type "int") (liftB (rc X) intB) := CallRi call_int1 fun vs H Q ⟨G, T, sd, σ, ds, r, S, V, e, k⟩ => by
  unfold intB at e
  split at e
  · cases e
    obtain ⟨v, rfl, h⟩ := V.one
    exact .inl ⟨_, by rw [h.i], k _ G H Same.refl S (Rep.int (rc X) G _) True.intro⟩
  · cases e
    obtain ⟨v, rfl, h⟩ := V.one
    exact .inr ⟨_, by rw [h.b], k _ G H Same.refl S (Rep.int (rc X) G _) True.intro⟩
  · cases e
def divmodB : FB
  | [.int i, .int j] => if 0 < j ∧ j < 1073741824 then some (.fz (.tup [.int (i / j), .int (i % j)])) else none
  | _ => none
theorem ca_divmod : CallR X (.builtin "divmod") (liftB (rc X) divmodB) := CallRi call_divmod fun vs H Q ⟨G, T, sd, σ, ds, r, S, V, e, k⟩ => by
  unfold divmodB at e
  split at e
  · obtain ⟨hz, rfl⟩ := ite_some e
    obtain ⟨v, u, rfl, h, h2⟩ := V.two
    refine ⟨_, _, by rw [h.i, h2.i], hz, fun m hm => ?_⟩
    have gn := S.gnone hm
    exact k _ _ _ (same_upd gn) (S.laid hm) (show Rep _ _ (.tup _) _ from Rep.newT gn (RepL.cons (Rep.int ..) (RepL.one (Rep.int ..)))) True.intro
  · cases e
def lenB : FB
  | [.tup ds] => some (.fz (.int ds.length))
  | [.lst ds] => some (.fz (.int ds.length))
  | [.kl ds] => some (.fz (.int ds.length))
  | [.str x] => if x.length ≤ sizeLine then some (.fz (.int x.length)) else none
  | _ => none
theorem ca_len : CallR X (.builtin "len") (liftB (rc X) lenB) := CallRi call_len fun vs H Q ⟨G, T, sd, σ, ds, r, S, V, e, k⟩ => by
  unfold lenB at e
  split at e
  · rename_i ds
    cases e
    obtain ⟨v, rfl, h⟩ := V.one
    obtain ⟨a, vs, rfl, q, rl⟩ := h.t S.same
    exact ⟨.ref a, ds.length, rfl, .inr ⟨vs, q, rl.length.symm⟩, k _ G H Same.refl S (Rep.int (rc X) G _) True.intro⟩
  · rename_i ds
    cases e
    obtain ⟨v, rfl, h⟩ := V.one
    obtain ⟨a, vs, rfl, q, rl⟩ := h.l S.same
    exact ⟨.ref a, ds.length, rfl, .inl ⟨vs, SqL.of q, rl.length.symm⟩, k _ G H Same.refl S (Rep.int (rc X) G _) True.intro⟩
  · rename_i ds
    cases e
    obtain ⟨v, rfl, h⟩ := V.one
    obtain ⟨a, vs, rfl, q, rl⟩ := h.k S.same
    exact ⟨.ref a, ds.length, rfl, .inl ⟨vs, q, rl.length.symm⟩, k _ G H Same.refl S (Rep.int (rc X) G _) True.intro⟩
  · rename_i x
    obtain ⟨hz, rfl⟩ := ite_some e
    obtain ⟨v, rfl, h⟩ := V.one
    exact ⟨v, x.length, rfl, by rw [h.s]; exact ⟨hz, rfl⟩, k _ G H Same.refl S (Rep.int (rc X) G _) True.intro⟩
  · cases e
def tupleB : FB
  | [.tup ds] => some (.fz (.tup ds))
  | [.lst ds] => some (.fz (.tup ds))
  | _ => none
theorem ca_tuple : CallR X (.type "tuple") (liftB (rc X) tupleB) := CallRi call_tuple_of fun vs H Q ⟨G, T, sd, σ, ds, r, S, V, e, k⟩ => by
  unfold tupleB at e
  split at e
  · rename_i ds
    cases e
    obtain ⟨v, rfl, h⟩ := V.one
    rcases h with h | ⟨_, _, h⟩
    · obtain ⟨a, vs, rfl, q, rl⟩ := h.t
      exact ⟨a, vs, rfl, .inr ⟨SqT.mono q S.same, k _ G H Same.refl S h True.intro⟩⟩
    · exact h.elim
  · rename_i ds
    cases e
    obtain ⟨v, rfl, h⟩ := V.one
    obtain ⟨a, vs, rfl, q, rl⟩ := h.l S.same
    refine ⟨a, vs, rfl, .inl ⟨SqL.of q, fun m hm => ?_⟩⟩
    have gn := S.gnone hm
    exact k _ _ _ (same_upd gn) (S.laid hm) (show Rep _ _ (.tup _) _ from Rep.newT gn rl) True.intro
  · cases e
def listB : FB
  | [.tup ds] => some (.ow (.lst ds))
  | [.lst ds] => some (.ow (.lst ds))
  | _ => none
theorem ca_list : CallR X (.type "list") (liftB (rc X) listB) := CallRi call_list_of fun vs H Q ⟨G, T, sd, σ, ds, r, S, V, e, k⟩ => by
  unfold listB at e
  split at e
  · rename_i ds
    cases e
    obtain ⟨v, rfl, h⟩ := V.one
    obtain ⟨a, vs, rfl, q, rl⟩ := h.t S.same
    exact ⟨a, vs, rfl, .inr q, fun m hm => k _ G _ Same.refl (S.more hm) ⟨m, rfl, S.gnone hm, Same.nn S.sameT hm, vs, upd_same, rl⟩ (S.fresh_new hm)⟩
  · rename_i ds
    cases e
    obtain ⟨v, rfl, h⟩ := V.one
    obtain ⟨a, vs, rfl, q, rl⟩ := h.l S.same
    exact ⟨a, vs, rfl, .inl (SqL.of q), fun m hm => k _ G _ Same.refl (S.more hm) ⟨m, rfl, S.gnone hm, Same.nn S.sameT hm, vs, upd_same, rl⟩ (S.fresh_new hm)⟩
  · cases e
/-- truth values, all of them -/
def bools : List D → Option (List Bool)
  | [] => some []
  | .bl b :: r => (bools r).bind fun l => some (b :: l)
  | _ :: _ => none
theorem RepL.bools {c : RC} {H : Hp} : ∀ {ds : List D} {vs : List V} {bs : List Bool}, RepL c H ds vs → DS.bools ds = some bs → vs = bs.map V.bl
  | [], vs, bs, h, e => by simp only [RepL] at h; cases e; exact h
  | d :: ds, vs, bs, h, e => by
    obtain ⟨v, r, rfl, h1, h2⟩ := h.uncons
    cases d with
    | bl b =>
      obtain ⟨l, hl, e⟩ := bindS e
      cases e
      rw [h1.b, RepL.bools h2 hl]; rfl
    | _ => cases e
def allB : FB
  | [.lst ds] => (bools ds).bind fun bs => some (.fz (.bl (bs.all id)))
  | _ => none
theorem ca_all (hc : X.calm = true) : CallR X (.builtin "all") (liftB (rc X) allB) := CallRi (cr_all hc) fun vs H Q ⟨G, T, sd, σ, ds, r, S, V, e, k⟩ => by
  unfold allB at e
  split at e
  · rename_i ds
    obtain ⟨bs, hb, e⟩ := bindS e
    cases e
    obtain ⟨v, rfl, h⟩ := V.one
    obtain ⟨a, vs, rfl, q, rl⟩ := h.l S.same
    exact ⟨a, bs, rfl, by rw [← rl.bools hb]; exact SqL.of q, k _ G H Same.refl S (Rep.bl (rc X) G _) True.intro⟩
  · cases e
def anyB : FB
  | [.lst ds] => (bools ds).bind fun bs => some (.fz (.bl (bs.any id)))
  | _ => none
theorem ca_any (hc : X.calm = true) : CallR X (.builtin "any") (liftB (rc X) anyB) := CallRi (cr_any hc) fun vs H Q ⟨G, T, sd, σ, ds, r, S, V, e, k⟩ => by
  unfold anyB at e
  split at e
  · rename_i ds
    obtain ⟨bs, hb, e⟩ := bindS e
    cases e
    obtain ⟨v, rfl, h⟩ := V.one
    obtain ⟨a, vs, rfl, q, rl⟩ := h.l S.same
    exact ⟨a, bs, rfl, by rw [← rl.bools hb]; exact SqL.of q, k _ G H Same.refl S (Rep.bl (rc X) G _) True.intro⟩
  · cases e

/-! ### isinstance with a built-in type -/
def tyName : D → Option String
  | .non => some "NoneType"
  | .bl _ => some "bool"
  | .int _ => some "int"
  | .str _ => some "str"
  | .tup _ => some "tuple"
  | .lst _ => some "list"
  | .kl _ => some "list"
  | _ => none
def isiD (T : String) (d : D) : Option D := (tyName d).bind fun n => (kitB n T).bind fun b => some (.bl b)
theorem View.ty {c : RC} {G H : Hp} (s : Same G H) {d : D} {v : V} (h : View c G H d v) {n : String} (e : tyName d = some n) : TyX c.K H v (.type n) := by
  unfold tyName at e
  split at e <;> cases e
  · rw [h.n]; exact .base .non
  · rw [h.b]; exact .base (.bl _)
  · rw [h.i]; exact .base (.int _)
  · rw [h.s]; exact .base (.str _)
  · obtain ⟨a, vs, rfl, q, _⟩ := h.t s
    rcases q with (q | ⟨o, q⟩) | ⟨o, its, n, q, q2, _⟩
    · exact .base (.tup q)
    · exact .fTuple q
    · exact .kTuple q q2
  · obtain ⟨a, vs, rfl, q, _⟩ := h.l s
    exact .base (.lst q)
  · obtain ⟨a, vs, rfl, q, _⟩ := h.k s
    rcases q with (q | ⟨o, q⟩) | ⟨o, its, n, q, q2, _⟩
    · exact .base (.lst q)
    · exact .base (.frz q)
    · exact .kList q q2
/-- x a slot (it may be owned): isinstance(x, T) -/
def dIsS (i : Nat) (T : String) : TF := fun sd => match sd[i]? with
  | some (some dv) => (isiD T dv.d).bind fun d => some (d, sd)
  | _ => none
theorem df_isS {i : Nat} {T : String} {x y : Str} {e : Expr} {p pos : Pos} {p2 : Pos} (hg : Gl X x) (hm : X.mg x = none) (hv : bootBuiltins x = some (.builtin "isinstance")) (he : PE X e (tVar i)) (hT : PE X (.Name y p2) (tC (.ty T))) (hn : x ≠ "__name__" := by decide) (hdb : (x == ("__debug__" : Str)) = false := by decide)
    (h1 : starEach [e, .Name y p2] X.env = (false, eval e X.env) :: starEach [.Name y p2] X.env := by rfl) (h2 : starEach [.Name y p2] X.env = (false, eval (.Name y p2) X.env) :: starEach [] X.env := by rfl) (hpl : (backTo pos (starEach [.Name y p2] X.env)).any (·.1) = false := by rfl) :
    DF X (.Call (.Name x p) [e, .Name y p2] [] pos) (dIsS i T) :=
  PEi (pe_callB call_isi hg hm hv (pa_cons he (pa_cons hT pa_nil h2) h1) hn hdb h1 hpl) fun σ H Q ⟨G, T', sd, d, sd', S, e1, k⟩ => by
    unfold dIsS at e1
    split at e1
    · rename_i dv h0
      obtain ⟨d1, e2, e1⟩ := bindS e1
      cases e1
      obtain ⟨v, hv, r⟩ := S.slots i _ h0
      unfold isiD at e2
      obtain ⟨n, hn', e2⟩ := bindS e2
      obtain ⟨b, hb, e2⟩ := bindS e2
      cases e2
      exact ⟨v, hv, v, .ty T, .type n, .type T, b, rfl, .ty T, r.view.ty S.same hn', kit_ty hb, k _ G H Same.refl S (Rep.bl ..)⟩
    · cases e1
end
end DS
end

section
set_option Elab.async false
set_option linter.all false
set_option maxRecDepth 100000
set_option maxHeartbeats 1000000
namespace DS
open PySem PySem.Spec PyProof.Rows L2
section
variable {X : Cx} {fx : List Nat} {pins : List (Addr × Obj)} {σ0 : L2.St} {G H : Hp} {s : Shared}
/-! ### keys -/
mutual
theorem Rep.nested (I : Inv X pins σ0 H s) (hs : Same G H) : ∀ (d : D) (v : V) (k : NestedKey) (u : Value), Rep (rc X) G d v → D.nk d = some k → RelV v u → NestedIs s.heap k u
  | .non, v, k, u, h, e, r => by
    simp only [Rep, D.nk, Option.some.injEq] at h e
    subst h e; cases r; exact .none
  | .int i, v, k, u, h, e, r => by
    simp only [Rep, D.nk, Option.some.injEq] at h e
    subst h e; obtain ⟨t, rfl⟩ := r; exact .int i t
  | .str x, v, k, u, h, e, r => by
    simp only [Rep, D.nk, Option.some.injEq] at h e
    subst h e; obtain ⟨t, rfl⟩ := r; exact .text x t
  | .tup ds, v, k, u, h, e, r => by
    simp only [Rep, D.nk] at h e
    obtain ⟨a, vs, rfl, q, rl⟩ := h
    split at e
    · rename_i ks hk
      cases e
      cases r
      obtain ⟨its, rv, ⟨o, ho, hc, n, hd⟩, _⟩ := I.tuple (SqT.mono q hs)
      exact .tup ho hc hd (by simpa using RepL.nested I hs ds vs ks its rl hk rv)
    · cases e
  | .bl _, v, k, u, h, e, r => by simp [D.nk] at e
  | .lst _, v, k, u, h, e, r => by simp [D.nk] at e
  | .kl _, v, k, u, h, e, r => by simp [D.nk] at e
  | .dct _, v, k, u, h, e, r => by simp [D.nk] at e
  | .ins _ _ _, v, k, u, h, e, r => by simp [D.nk] at e
theorem RepL.nested (I : Inv X pins σ0 H s) (hs : Same G H) : ∀ (ds : List D) (vs : List V) (ks : List NestedKey) (us : List Value), RepL (rc X) G ds vs → D.nks ds = some ks → Vals vs us → NestedAll s.heap ks us
  | [], vs, ks, us, h, e, r => by
    simp only [RepL, D.nks, Option.some.injEq] at h e
    subst h e; cases r; exact .nil
  | d :: ds, vs, ks, us, h, e, r => by
    simp only [RepL, D.nks] at h e
    obtain ⟨v, vr, rfl, h1, h2⟩ := h
    split at e
    · rename_i k kr hk hkr
      cases e
      cases r with
      | cons r1 r2 => exact .cons (Rep.nested I hs d v k _ h1 hk r1) (RepL.nested I hs ds vr kr _ h2 hkr r2)
    · cases e
end
mutual
theorem D.nk_inj : ∀ (a b : D) (k : NestedKey), D.nk a = some k → D.nk b = some k → a = b
  | .non, b, k, h, h' => by
    simp only [D.nk, Option.some.injEq] at h; subst h
    cases b <;> simp only [D.nk] at h' <;> first | rfl | cases h' | (split at h' <;> cases h')
  | .int i, b, k, h, h' => by
    simp only [D.nk, Option.some.injEq] at h; subst h
    cases b <;> simp only [D.nk] at h' <;> first | (cases h'; rfl) | cases h' | (split at h' <;> cases h')
  | .str x, b, k, h, h' => by
    simp only [D.nk, Option.some.injEq] at h; subst h
    cases b <;> simp only [D.nk] at h' <;> first | (cases h'; rfl) | cases h' | (split at h' <;> cases h')
  | .tup ds, b, k, h, h' => by
    simp only [D.nk] at h
    split at h
    · rename_i ks hk
      cases h
      cases b with
      | tup es =>
        simp only [D.nk] at h'
        split at h'
        · rename_i ks' hk'
          cases h'
          rw [D.nks_inj ds es ks hk hk']
        · cases h'
      | _ => simp [D.nk] at h'
    · cases h
  | .bl _, b, k, h, h' => by simp [D.nk] at h
  | .lst _, b, k, h, h' => by simp [D.nk] at h
  | .kl _, b, k, h, h' => by simp [D.nk] at h
  | .dct _, b, k, h, h' => by simp [D.nk] at h
  | .ins _ _ _, b, k, h, h' => by simp [D.nk] at h
theorem D.nks_inj : ∀ (a b : List D) (k : List NestedKey), D.nks a = some k → D.nks b = some k → a = b
  | [], b, k, h, h' => by
    simp only [D.nks, Option.some.injEq] at h; subst h
    cases b with
    | nil => rfl
    | cons e es => simp only [D.nks] at h'; split at h' <;> cases h'
  | d :: ds, b, k, h, h' => by
    simp only [D.nks] at h
    split at h
    · rename_i x xs hx hxs
      cases h
      cases b with
      | nil => simp [D.nks] at h'
      | cons e es =>
        simp only [D.nks] at h'
        split at h'
        · rename_i y ys hy hys
          cases h'
          rw [D.nk_inj d e x hx hy, D.nks_inj ds es xs hxs hys]
        · cases h'
    · cases h
end
/-- a tuple that may be a key -/
def keyOk (d : D) : Option NestedKey := match d with
  | .tup _ => (D.nk d).bind fun k => if k.depth ≤ 8 then some k else none
  | _ => none
/-! ### what a dict holds -/
def dfind (its : List D) (k : NestedKey) : Option D := match its with
  | [] => none
  | .tup [kd, vd] :: r => if D.nk kd = some k then some vd else dfind r k
  | _ :: _ => none
def dput (its : List D) (k : NestedKey) (kd vd : D) : List D := match its with
  | [] => [.tup [kd, vd]]
  | .tup [kd', vd'] :: r => if D.nk kd' = some k then .tup [kd', vd] :: r else .tup [kd', vd'] :: dput r k kd vd
  | x :: r => x :: dput r k kd vd
def efind (es : List Ent) (k : NestedKey) : Option V := (es.find? fun e => decide (e.1 = k)).map (·.2.2)
def eput (es : List Ent) (k : NestedKey) (a : Addr) (v : V) : List Ent := match es with
  | [] => [(k, a, v)]
  | e :: r => if e.1 = k then (e.1, e.2.1, v) :: r else e :: eput r k a v
theorem RepI.uncons {c : RC} {H : Hp} {d : D} {its : List D} {es : List Ent} (h : RepI c H (d :: its) es) : ∃ kd vd k b x r', d = .tup [kd, vd] ∧ es = (k, b, x) :: r' ∧ D.nk kd = some k ∧ k.depth ≤ 8 ∧ Rep c H kd (.ref b) ∧ Rep c H vd x ∧ RepI c H its r' := by
  match d, h with
  | .tup [kd, vd], h =>
    simp only [RepI] at h
    obtain ⟨k, b, x, r', h⟩ := h
    exact ⟨kd, vd, k, b, x, r', rfl, h⟩
  | .tup [], h => simp [RepI] at h
  | .tup [_], h => simp [RepI] at h
  | .tup (_ :: _ :: _ :: _), h => simp [RepI] at h
  | .non, h => simp [RepI] at h
  | .bl _, h => simp [RepI] at h
  | .int _, h => simp [RepI] at h
  | .str _, h => simp [RepI] at h
  | .lst _, h => simp [RepI] at h
  | .kl _, h => simp [RepI] at h
  | .dct _, h => simp [RepI] at h
  | .ins _ _ _, h => simp [RepI] at h
theorem RepI.consI {c : RC} {H : Hp} {kd vd : D} {its : List D} {k : NestedKey} {b : Addr} {x : V} {es : List Ent} (h1 : D.nk kd = some k) (h2 : k.depth ≤ 8) (h3 : Rep c H kd (.ref b)) (h4 : Rep c H vd x) (h5 : RepI c H its es) : RepI c H (.tup [kd, vd] :: its) ((k, b, x) :: es) := by
  simp only [RepI]; exact ⟨k, b, x, es, rfl, h1, h2, h3, h4, h5⟩
theorem RepI.find {c : RC} {H : Hp} {k : NestedKey} : ∀ {its : List D} {es : List Ent}, RepI c H its es → match dfind its k with
    | some d => ∃ v, efind es k = some v ∧ Rep c H d v
    | none => efind es k = none
  | [], es, h => by simp only [RepI] at h; subst h; rfl
  | d :: its, es, h => by
    obtain ⟨kd, vd, k', b, x, r', rfl, rfl, h1, h2, h3, h4, h5⟩ := h.uncons
    have ih := RepI.find (k := k) h5
    by_cases e : k' = k
    · subst e
      simp only [dfind, h1, if_true]
      exact ⟨x, by simp [efind], h4⟩
    · have e1 : D.nk kd ≠ some k := by rw [h1]; intro z; exact e (Option.some.inj z)
      have e2 : efind ((k', b, x) :: r') k = efind r' k := by simp [efind, e]
      simp only [dfind, if_neg e1]
      rw [e2]; exact ih
theorem RepI.put {c : RC} {H : Hp} {k : NestedKey} {kd vd : D} {b : Addr} {x : V} (hk : D.nk kd = some k) (hd : k.depth ≤ 8) (r1 : Rep c H kd (.ref b)) (r2 : Rep c H vd x) : ∀ {its : List D} {es : List Ent}, RepI c H its es → RepI c H (dput its k kd vd) (eput es k b x)
  | [], es, h => by
    simp only [RepI] at h; subst h
    exact RepI.consI hk hd r1 r2 (by simp [RepI])
  | d :: its, es, h => by
    obtain ⟨kd', vd', k', b', x', r', rfl, rfl, h1, h2, h3, h4, h5⟩ := h.uncons
    by_cases e : k' = k
    · subst e
      simp only [dput, h1, if_true, eput]
      exact RepI.consI h1 h2 h3 r2 h5
    · have e1 : D.nk kd' ≠ some k := by rw [h1]; intro z; exact e (Option.some.inj z)
      simp only [dput, if_neg e1, eput, if_neg e]
      exact RepI.consI h1 h2 h3 h4 (RepI.put hk hd r1 r2 h5)
theorem RepI.keys {c : RC} {H : Hp} : ∀ {its : List D} {es : List Ent}, RepI c H its es → ∀ e ∈ es, ∃ kd, D.nk kd = some e.1 ∧ e.1.depth ≤ 8 ∧ Rep c H kd (.ref e.2.1)
  | [], es, h => by simp only [RepI] at h; subst h; intro e he; cases he
  | d :: its, es, h => by
    obtain ⟨kd', vd', k', b', x', r', rfl, rfl, h1, h2, h3, h4, h5⟩ := h.uncons
    intro e he
    rcases List.mem_cons.mp he with rfl | he
    · exact ⟨kd', h1, h2, h3⟩
    · exact RepI.keys h5 e he
theorem RepI.length {c : RC} {H : Hp} : ∀ {its : List D} {es : List Ent}, RepI c H its es → es.length = its.length
  | [], es, h => by simp only [RepI] at h; subst h; rfl
  | d :: its, es, h => by
    obtain ⟨kd', vd', k', b', x', r', rfl, rfl, h1, h2, h3, h4, h5⟩ := h.uncons
    simp [RepI.length h5]
theorem ents_keys : ∀ {es : List Ent} {xs : List (NestedKey × Addr × Value)}, Paired EntRel es xs → xs.map (·.1) = es.map (·.1)
  | _, _, .nil => rfl
  | _, _, .cons q t => by rw [List.map_cons, List.map_cons, q.1, ents_keys t]
/-- the library's word for the dict -/
theorem DA.dict (I : Inv X pins σ0 H s) (hs : Same G H) {a : Addr} {its : List D} {es : List Ent} (h : DA (rc X) H a es) (r : RepI (rc X) G its es) : ∃ xs, s.heap.DictOfH (nestedKind X.prog X.w) a xs ∧ Paired EntRel es xs := by
  obtain ⟨o, hat⟩ := h.at_
  obtain ⟨⟨ents, ep, xs, ho, hx, hd, he, hp⟩, _, _⟩ := I.hok a _ hat
  refine ⟨xs, ⟨o, ents, ep, ho, hx, hd, he, fun x hx => ?_, ?_⟩, hp⟩
  · obtain ⟨j, hj⟩ := List.getElem?_of_mem hx
    have hl := hp.length
    have hjl : j < es.length := by rw [hl]; exact (List.getElem?_eq_some_iff.mp hj).1
    have e1 : es[j]? = some es[j] := by simp [hjl]
    obtain ⟨k1, k2, _⟩ := Paired.at2 hp e1 hj
    obtain ⟨kd, h1, h2, h3⟩ := RepI.keys r es[j] (List.mem_of_getElem? e1)
    rw [← k1, ← k2]
    exact ⟨Rep.nested I hs kd _ _ _ h3 h1 rfl, h2⟩
  · rw [ents_keys hp]; exact h.nd
theorem efind_cons {k : NestedKey} {e : Ent} {l : List Ent} : efind (e :: l) k = if e.1 = k then some e.2.2 else efind l k := by
  unfold efind
  rw [List.find?_cons]
  by_cases h : e.1 = k
  · simp [h]
  · simp [h]
theorem atKey_cons {k : NestedKey} {x : NestedKey × Addr × Value} {l : List (NestedKey × Addr × Value)} : atKey (x :: l) k = if x.1 = k then some x.2 else atKey l k := by
  unfold atKey
  rw [List.find?_cons]
  by_cases h : x.1 = k
  · simp [h]
  · simp [h]
theorem ents_find {k : NestedKey} {es : List Ent} {xs : List (NestedKey × Addr × Value)} (h : Paired EntRel es xs) : match efind es k with
    | some v => ∃ p, atKey xs k = some p ∧ RelV v p.2
    | none => atKey xs k = none := by
  induction h with
  | nil => rfl
  | @cons e x es xs q t ih =>
    rw [efind_cons, atKey_cons, ← q.1]
    by_cases hk : e.1 = k
    · rw [if_pos hk, if_pos hk]
      exact ⟨x.2, rfl, q.2.2⟩
    · rw [if_neg hk, if_neg hk]; exact ih
end
end DS
end

section
set_option Elab.async false
set_option linter.all false
set_option maxRecDepth 100000
set_option maxHeartbeats 1000000
namespace DS
open PySem PySem.Spec PyProof.Rows L2
theorem storedH_nil (k : NestedKey) (a : Addr) (v : Value) : storedH ([] : List (NestedKey × Addr × Value)) k a v = [(k, a, v)] := by
  unfold storedH atKey; rfl
theorem storedH_skip {k : NestedKey} {a : Addr} {v : Value} {x : NestedKey × Addr × Value} {xs : List (NestedKey × Addr × Value)} (h : x.1 ≠ k) : storedH (x :: xs) k a v = x :: storedH xs k a v := by
  unfold storedH
  rw [atKey_cons, if_neg h]
  split
  · rw [List.map_cons]
    have : putAt k v x = x := by unfold putAt; rw [if_neg h]
    rw [this]
  · rw [List.cons_append]
theorem putAt_none {k : NestedKey} {v : Value} {xs : List (NestedKey × Addr × Value)} (h : k ∉ xs.map (·.1)) : xs.map (putAt k v) = xs := by
  induction xs with
  | nil => rfl
  | cons x xs ih =>
    simp only [List.map_cons, List.mem_cons, not_or] at h
    rw [List.map_cons, ih h.2]
    have : putAt k v x = x := by unfold putAt; rw [if_neg (fun e => h.1 e.symm)]
    rw [this]
theorem ents_put {k : NestedKey} {b : Addr} {v : V} {v' : Value} (r : RelV v v') {es : List Ent} {xs : List (NestedKey × Addr × Value)} (h : Paired EntRel es xs) (n : (es.map (·.1)).Nodup) : Paired EntRel (eput es k b v) (storedH xs k b v') := by
  induction h with
  | nil => rw [storedH_nil]; exact .cons ⟨rfl, rfl, r⟩ .nil
  | @cons e x es xs q t ih =>
    rw [List.map_cons, List.nodup_cons] at n
    by_cases hk : e.1 = k
    · unfold eput
      rw [if_pos hk]
      have hx : x.1 = k := by rw [← q.1, hk]
      have e1 : storedH (x :: xs) k b v' = (x.1, x.2.1, v') :: xs := by
        unfold storedH
        rw [atKey_cons, if_pos hx]
        simp only [Option.isSome_some, if_true, List.map_cons]
        have h1 : putAt k v' x = (x.1, x.2.1, v') := by unfold putAt; rw [if_pos hx]
        rw [h1, putAt_none]
        rw [ents_keys t, ← hk]; exact n.1
      rw [e1]
      exact .cons ⟨q.1, q.2.1, r⟩ t
    · unfold eput
      rw [if_neg hk, storedH_skip (by rw [← q.1]; exact hk)]
      exact .cons q (ih n.2)
theorem eput_keys {k : NestedKey} {b : Addr} {v : V} : ∀ {es : List Ent}, (∀ x ∈ (eput es k b v).map (·.1), x = k ∨ x ∈ es.map (·.1))
  | [] => by intro x hx; simp [eput] at hx; exact .inl hx
  | e :: es => by
    intro x hx
    unfold eput at hx
    split at hx
    · simp only [List.map_cons, List.mem_cons] at hx ⊢; exact .inr hx
    · simp only [List.map_cons, List.mem_cons] at hx ⊢
      rcases hx with rfl | hx
      · exact .inr (.inl rfl)
      · rcases eput_keys x hx with h | h
        · exact .inl h
        · exact .inr (.inr h)
theorem eput_nodup {k : NestedKey} {b : Addr} {v : V} : ∀ {es : List Ent}, (es.map (·.1)).Nodup → ((eput es k b v).map (·.1)).Nodup
  | [], _ => by simp [eput]
  | e :: es, n => by
    rw [List.map_cons, List.nodup_cons] at n
    unfold eput
    split
    · rw [List.map_cons, List.nodup_cons]; exact n
    · rename_i hk
      rw [List.map_cons, List.nodup_cons]
      refine ⟨fun hm => ?_, eput_nodup n.2⟩
      rcases eput_keys _ hm with h | h
      · exact hk h
      · exact n.1 h
theorem eput_len {k : NestedKey} {b : Addr} {v : V} : ∀ {es : List Ent}, (eput es k b v).length ≤ es.length + 1
  | [] => by simp [eput]
  | e :: es => by
    unfold eput
    split
    · simp
    · simp only [List.length_cons]; have := eput_len (k := k) (b := b) (v := v) (es := es); omega
theorem dct_stable {P : Program} {w : World} {a : Addr} {es : List Ent} {ob : Obj} (h1 h2 : Heap) (x : DctRaw P w a es ob h1) (k : ∀ o, h1.get? a = some o → h2.get? a = some o) : DctRaw P w a es ob h2 := by
  obtain ⟨ents, ep, xs, ho, r⟩ := x
  exact ⟨ents, ep, xs, k ob ho, r⟩
theorem dct_obj {P : Program} {w : World} {H : Hp} {h : Heap} {a : Addr} {es : List Ent} {o : Obj} (x : DctRaw P w a es o h) : ObjOk P w H h a (dctO P w a es o) := by
  obtain ⟨ents, ep, xs, ho, r⟩ := id x
  exact ⟨x, ⟨o, ho⟩, dct_stable⟩
theorem dct_of {P : Program} {w : World} {h : Heap} {a : Addr} {es : List Ent} {xs : List (NestedKey × Addr × Value)} (x : h.DictOfH (nestedKind P w) a xs) (p : Paired EntRel es xs) : ∃ o, DctRaw P w a es o h := by
  obtain ⟨o, ents, ep, ho, hx, hd, he, _, _⟩ := x
  exact ⟨o, ents, ep, xs, ho, hx, hd, he, p⟩
/-- a key that is there, as the library wants it -/
theorem keyIs {X : Cx} {pins : List (Addr × Obj)} {σ0 : L2.St} {G H : Hp} {s : Shared} (I : Inv X pins σ0 H s) (hs : Same G H) {kd : D} {k : NestedKey} {v : V} (r : Rep (rc X) G kd v) (e : keyOk kd = some k) : ∃ b, v = .ref b ∧ (nestedKind X.prog X.w).is s.heap k b ∧ D.nk kd = some k ∧ k.depth ≤ 8 := by
  unfold keyOk at e
  split at e
  · rename_i ds
    obtain ⟨k', h1, e⟩ := bindS e
    obtain ⟨h2, rfl⟩ := ite_some e
    obtain ⟨b, vs, rfl, _⟩ := r.t
    exact ⟨b, rfl, ⟨Rep.nested I hs _ _ _ _ r h1 rfl, h2⟩, h1, h2⟩
  · cases e
section
variable {X : Cx} {fx : List Nat}
def rPutD (c : RC) : TSet := fun o i v H Q => ∃ G its es a b kd k, o = .ref a ∧ i = .ref b ∧ Same G H ∧ DA c H a es ∧ RepI c G its es ∧ Rep c G kd (.ref b) ∧ keyOk kd = some k ∧ es.length < sizeLine ∧ ∀ ob, Q (upd H a (dctO c.P c.w a (eput es k b v) ob))
theorem set_dct (hu : X.A.units + 64 < cLine) : PSet X (rPutD (rc X)) := by
  intro pins s σ H o i v ov iv u Q I ro ri rv h
  obtain ⟨G, its, es, a, b, kd, k, rfl, rfl, hs, ha, hi, hk, hkk, hz, q⟩ := h
  cases ro
  cases ri
  obtain ⟨xs, hx, hp⟩ := ha.dict I hs hi
  obtain ⟨b', e1, hkey, _, _⟩ := keyIs I hs hk hkk
  cases e1
  refine wpAny_setItem_heap (knd := nestedKind X.prog X.w) (by show X.A.units + 1 + 8 < cLine; omega) hkey hx (fun h' hm' hsb => ?_) (by rw [← hp.length]; omega)
  obtain ⟨oa, hat⟩ := ha.at_
  obtain ⟨on, hon⟩ := dct_of hm' (ents_put rv hp ha.nd)
  refine ⟨_, I.write (x := a) (e := a) (by rw [hat]; exact True.intro) (.inl rfl) (fun c ob hc e => (hsb.2 c hc).trans e) ?_ (dct_obj hon), q on⟩
  obtain ⟨ob, _, _, ho, _⟩ := hm'
  exact ⟨ob, ho⟩
theorem DA.put {c : RC} {H : Hp} {a b : Addr} {es : List Ent} {k : NestedKey} {v : V} {ob : Obj} (h : DA c H a es) (hz : es.length < sizeLine) : DA c (upd H a (dctO c.P c.w a (eput es k b v) ob)) a (eput es k b v) :=
  ⟨h.sys, ⟨ob, upd_same⟩, eput_nodup h.nd, Nat.le_trans eput_len hz⟩

theorem keyOk_inv {d : D} {k : NestedKey} (e : keyOk d = some k) : (∃ ds, d = .tup ds) ∧ D.nk d = some k ∧ k.depth ≤ 8 := by
  unfold keyOk at e
  split at e
  · obtain ⟨k', h1, e⟩ := bindS e
    obtain ⟨h2, rfl⟩ := ite_some e
    exact ⟨⟨_, rfl⟩, h1, h2⟩
  · cases e
theorem Rep.isRef {c : RC} {G : Hp} {d : D} {k : NestedKey} {v : V} (r : Rep c G d v) (e : keyOk d = some k) : ∃ b, v = .ref b := by
  obtain ⟨⟨ds, rfl⟩, _⟩ := keyOk_inv e
  obtain ⟨b, vs, e, _⟩ := r.t
  exact ⟨b, e⟩
/-! ### o[i] = v at a slot's own thing -/
def setD (d k v : D) : Option D := match d with
  | .lst ds => match k with
    | .int i => (ixN ds.length i).bind fun j => some (.lst (ds.set j v))
    | _ => none
  | .dct its => (keyOk k).bind fun nk => if its.length < sizeLine then some (.dct (dput its nk k v)) else none
  | _ => none
def bSub (i : Nat) (ti : TF) : BG := fun d sd => match sd[i]? with
  | some (some (.ow _)) => (ti sd).bind fun q => match q.2[i]? with
    | some (some (.ow c0)) => (setD c0 q.1 d).bind fun c1 => some (q.2.set i (some (.ow c1)))
    | _ => none
  | _ => none
theorem PSet.or {r r' : TSet} (h : PSet X r) (h' : PSet X r') : PSet X (fun o i v H Q => r o i v H Q ∨ r' o i v H Q) := fun pins s σ H o i v ov iv u Q I ro ri rv q =>
  q.elim (h pins s σ H o i v ov iv u Q I ro ri rv) (h' pins s σ H o i v ov iv u Q I ro ri rv)
theorem dg_sub {i : Nat} {o ix : Expr} {ti : TF} {pos : Pos} (hu : X.A.units + 64 < cLine) (ho : PE X o (tVar i)) (hi : DF X ix ti)
    (ha : ∀ v, assign (.Subscript o ix pos) X.env v = (do
      let ov ← holding [v] (eval o X.env)
      let iv ← holding [v, ov] (eval ix X.env)
      standAt pos
      holding [v, ov, iv] (setItem ov iv v)
      release [v, ov, iv] []) := by intro _; rfl) : DG X fx (.Subscript o ix pos) (bSub i ti) :=
  PGi (pg_sub ho hi (PSet.or set_list (set_dct hu)) ha) fun v σ H Q ⟨G, T, sd, d, sd', S, r, e1, k⟩ => by
    unfold bSub at e1
    split at e1
    · rename_i d0 h0
      obtain ⟨w, hw, _⟩ := S.slots i _ h0
      obtain ⟨q, hq, e1⟩ := bindS e1
      refine ⟨w, hw, G, T, sd, q.1, q.2, S, hq, fun u G1 H1 s1 S1 r1 => ?_⟩
      split at e1
      · rename_i c0 h2
        obtain ⟨c1, e2, e1⟩ := bindS e1
        cases e1
        have rv := Rep.mono s1 _ _ r
        obtain ⟨p, rfl, a1, a2, a3⟩ := S1.at_ h2 hw
        unfold setD at e2
        split at e2
        · rename_i ds
          split at e2
          · rename_i j hj
            obtain ⟨n, hn, e2⟩ := bindS e2
            cases e2
            obtain ⟨vs, hp, rl⟩ := a3
            rw [hj] at r1
            refine .inl ⟨p, vs, j, n, rfl, r1.i, hp, by rw [rl.length]; exact hn, ?_⟩
            exact k σ G1 _ s1 Fix.refl (S1.write h2 hw ⟨_, upd_same, rl.set rv n⟩)
          · cases e2
        · rename_i its
          obtain ⟨nk, hnk, e2⟩ := bindS e2
          obtain ⟨hz, rfl⟩ := ite_some e2
          obtain ⟨es, hda, ri⟩ := a3
          have hz' : es.length < sizeLine := by rw [ri.length]; exact hz
          obtain ⟨b, rfl⟩ := r1.isRef hnk
          obtain ⟨_, h3, h4⟩ := keyOk_inv hnk
          refine .inr ⟨G1, its, es, p, b, q.1, nk, rfl, rfl, S1.same, hda, ri, r1, hnk, hz', fun ob => ?_⟩
          exact k σ G1 _ s1 Fix.refl (S1.write h2 hw ⟨_, hda.put hz', RepI.put h3 h4 r1 rv ri⟩)
        · cases e2
      · cases e1
    · cases e1
end
end DS
end

section
set_option Elab.async false
set_option linter.all false
set_option maxRecDepth 100000
set_option maxHeartbeats 1000000
namespace DS
open PySem PySem.Spec PyProof.Rows L2
/-! ### a reckoning that only looks: every slot is frozen for it, and is behind it what it was -/
def allIce (sd : DEnv) : DEnv := sd.map fun o => o.map fun dv => .fz dv.d
def isFlat : D → Bool
  | .non => true
  | .bl _ => true
  | .int _ => true
  | .str _ => true
  | _ => false
section
variable {c : RC} {G T H : Hp} {sd : DEnv} {σ : L2.St}
open Classical in
noncomputable def iceG (G H : Hp) (sd : DEnv) (σ : L2.St) : Hp := fun a => if ∃ (i : Nat) (d : D), sd[i]? = some (some (DV.ow d)) ∧ σ[i]? = some (some (.ref a)) then H a else G a
theorem iceG_cases (a : Addr) : (∃ (i : Nat) (d : D), sd[i]? = some (some (DV.ow d)) ∧ σ[i]? = some (some (.ref a)) ∧ iceG G H sd σ a = H a) ∨ iceG G H sd σ a = G a := by
  by_cases h : ∃ (i : Nat) (d : D), sd[i]? = some (some (DV.ow d)) ∧ σ[i]? = some (some (.ref a))
  · obtain ⟨i, d, h1, h3⟩ := h
    exact .inl ⟨i, d, h1, h3, by unfold iceG; rw [if_pos ⟨i, d, h1, h3⟩]⟩
  · exact .inr (by unfold iceG; rw [if_neg h])
theorem iceG_in {i : Nat} {d : D} {a : Addr} (h1 : sd[i]? = some (some (DV.ow d))) (h3 : σ[i]? = some (some (.ref a))) : iceG G H sd σ a = H a := by
  unfold iceG; rw [if_pos ⟨i, d, h1, h3⟩]
theorem StOk.iceSame (S : StOk c G T sd σ H) : Same G (iceG G H sd σ) := fun a o e => by
  rcases iceG_cases (G := G) (H := H) (sd := sd) (σ := σ) a with ⟨_, _, _, _, q⟩ | q
  · rw [q]; exact S.same a o e
  · rw [q]; exact e
theorem RepO.iced {d : D} {p : Addr} {G2 : Hp} (h : RepO c G H d p) (s : Same G G2) (e : G2 p = H p) : Rep c G2 d (.ref p) := by
  cases d with
  | lst ds =>
    obtain ⟨vs, e1, r⟩ := h
    simp only [Rep]
    exact ⟨p, vs, rfl, by rw [e]; exact e1, RepL.mono s _ _ r⟩
  | dct its =>
    obtain ⟨es, e1, r⟩ := h
    simp only [Rep]
    exact ⟨p, es, rfl, ⟨e1.sys, by rw [e]; exact e1.at_, e1.nd, e1.len⟩, RepI.mono s _ _ r⟩
  | ins n ns ds =>
    obtain ⟨C, dx, vs, m, e1, l, r⟩ := h
    simp only [Rep]
    exact ⟨p, C, dx, vs, rfl, m, by rw [e]; exact e1, l, RepL.mono s _ _ r⟩
  | _ => exact h.elim
theorem allIce_at {i : Nat} {dv : DV} (h : (allIce sd)[i]? = some (some dv)) : ∃ dw, sd[i]? = some (some dw) ∧ dv = .fz dw.d := by
  unfold allIce at h
  rw [List.getElem?_map] at h
  cases e : sd[i]? with
  | none => rw [e] at h; cases h
  | some o =>
    cases o with
    | none => rw [e] at h; cases h
    | some dw => rw [e] at h; cases h; exact ⟨dw, rfl, rfl⟩
theorem StOk.iced (S : StOk c G T sd σ H) : StOk c (iceG G H sd σ) T (allIce sd) σ H where
  same := fun a o e => by
    rcases iceG_cases (G := G) (H := H) (sd := sd) (σ := σ) a with ⟨_, _, _, _, q⟩ | q
    · rw [q] at e; exact e
    · rw [q] at e; exact S.same a o e
  sameT := S.sameT
  apart := fun a o e => by
    rcases iceG_cases (G := G) (H := H) (sd := sd) (σ := σ) a with ⟨i, d, h1, h2, q⟩ | q
    · obtain ⟨v, e1, p, rfl, _, a2, _⟩ := S.slots i _ h1
      rw [h2] at e1; cases e1
      rw [e] at a2; cases a2
    · rw [q]; exact S.apart a o e
  len := by unfold allIce; rw [List.length_map]; exact S.len
  slots := fun i dv e => by
    obtain ⟨dw, h1, rfl⟩ := allIce_at e
    obtain ⟨v, e1, r⟩ := S.slots i _ h1
    refine ⟨v, e1, ?_⟩
    cases dw with
    | fz d => exact Rep.mono S.iceSame _ _ r
    | ow d =>
      obtain ⟨p, rfl, a1, a2, a3⟩ := r
      exact a3.iced S.iceSame (iceG_in h1 e1)
  inj := fun i j d e v h1 => by
    obtain ⟨dw, _, h⟩ := allIce_at h1
    cases h
theorem StOk.thaw (S : StOk c G T sd σ H) {G' H' : Hp} (s : Same (iceG G H sd σ) G') (s2 : Same G' H') (s3 : Same T H') : StOk c G T sd σ H' where
  same := Same.tr S.iceSame (Same.tr s s2)
  sameT := s3
  apart := S.apart
  len := S.len
  slots := fun i dv e => by
    obtain ⟨v, e1, r⟩ := S.slots i _ e
    refine ⟨v, e1, ?_⟩
    cases dv with
    | fz d => exact r
    | ow d =>
      obtain ⟨p, rfl, a1, a2, a3⟩ := r
      obtain ⟨o, ho⟩ := a3.ex
      refine ⟨p, rfl, a1, a2, a3.mono Same.refl ?_⟩
      rw [ho]
      exact s2 p o (s p o (by rw [iceG_in e e1]; exact ho))
  inj := S.inj
theorem Rep.flat {G2 : Hp} {d : D} {v : V} (h : Rep c G d v) (f : isFlat d = true) : Rep c G2 d v := by
  cases d <;> first
    | (exfalso; exact Bool.false_ne_true f)
    | (simp only [Rep] at h ⊢; exact h)
end
section
variable {X : Cx} {fx : List Nat}
def dPureT (t : TB) : TB := fun sd => (t (allIce sd)).bind fun p => some (p.1, sd)
theorem dt_pure {e : Expr} {t : TB} (h : DT X e t) : DT X e (dPureT t) := PTi h fun σ H Q ⟨G, T, sd, b, sd', S, e1, k⟩ => by
  obtain ⟨p, hp, e1⟩ := bindS e1
  cases e1
  exact ⟨_, T, _, p.1, p.2, S.iced, hp, fun G' H' s S' => k G H' Same.refl (S.thaw s S'.same S'.sameT)⟩
def dPure (t : TF) : TF := fun sd => (t (allIce sd)).bind fun p => if isFlat p.1 = true then some (p.1, sd) else none
theorem df_pure {e : Expr} {t : TF} (h : DF X e t) : DF X e (dPure t) := PEi h fun σ H Q ⟨G, T, sd, d, sd', S, e1, k⟩ => by
  obtain ⟨p, hp, e1⟩ := bindS e1
  obtain ⟨hf, e2⟩ := ite_some e1
  cases e2
  exact ⟨_, T, _, p.1, p.2, S.iced, hp, fun v G' H' s S' r => k v G H' Same.refl (S.thaw s S'.same S'.sameT) (r.flat hf)⟩

/-! ### the right operand read where it stands -/
def liftOpV (c : RC) (f : F2) : R2 := fun v u H Q => ∃ G T sd σ x y d, StOk c G T sd σ H ∧ Rep c G x v ∧ View c G H y u ∧ f x y = some d ∧ ∀ w G' H', Same G G' → StOk c G' T sd σ H' → Rep c G' d w → Q w H'
def dBinS (f : F2) (ta : TF) (i : Nat) : TF := fun sd => (ta sd).bind fun p => match p.2[i]? with
  | some (some dv) => (f p.1 dv.d).bind fun d => some (d, p.2)
  | _ => none
theorem df_cmpS {op : CmpOp} {f : F2} {i : Nat} {a b : Expr} {ta : TF} {pos : Pos} (ho : OpR X (compareOp op) (liftOpV (rc X) f)) (ha : DF X a ta) (hb : PE X b (tVar i)) (hm : behindInMarks op b = false := by rfl) : DF X (.Compare a [op] [b] pos) (dBinS f ta i) :=
  PEi (pe_cmpR ho ha hb hm) fun σ H Q ⟨G, T, sd, d, sd', S, e1, k⟩ => by
    obtain ⟨p, hp, e1⟩ := bindS e1
    refine ⟨G, T, sd, p.1, p.2, S, hp, fun v G1 H1 s1 S1 r1 => ?_⟩
    split at e1
    · rename_i dv h2
      obtain ⟨d', e2, e1⟩ := bindS e1
      cases e1
      obtain ⟨w, hw, r⟩ := S1.slots i _ h2
      exact ⟨w, hw, G1, T, p.2, σ, p.1, dv.d, d, S1, r1, r.view, e2, fun u G2 H2 s2 S2 r2 => k u G2 H2 (Same.tr s1 s2) S2 r2⟩
    · cases e1
theorem df_cmpV {op : CmpOp} {f : F2} {a b : Expr} {ta tb : TF} {pos : Pos} (ho : OpR X (compareOp op) (liftOpV (rc X) f)) (ha : DF X a ta) (hb : DF X b tb) (hm : behindInMarks op b = false := by rfl) : DF X (.Compare a [op] [b] pos) (dBin f ta tb) :=
  PEi (pe_cmpR ho ha hb hm) fun σ H Q h => by
    obtain ⟨G, T, sd, x, sd1, S, e1, k⟩ := two_ok h
    refine ⟨G, T, sd, x, sd1, S, e1, fun v G1 H1 s1 S1 r1 => ?_⟩
    obtain ⟨G2, T2, sd2, y, sd3, S2, e2, k2⟩ := k v G1 H1 s1 S1 r1
    refine ⟨G2, T2, sd2, y, sd3, S2, e2, fun u G3 H3 s3 S3 r3 => ?_⟩
    obtain ⟨G4, T4, sd4, σ4, x4, y4, d4, S4, a4, b4, e4, k4⟩ := k2 u G3 H3 s3 S3 r3
    exact ⟨G4, T4, sd4, σ4, x4, y4, d4, S4, a4, .inl b4, e4, k4⟩
/-- in, not in: a list or tuple of plain things; a dict -/
def eqF : D → D → Bool
  | .non, .non => true
  | .bl a, .bl b => a == b
  | .bl a, .int b => (if a then 1 else 0) == b
  | .int a, .bl b => a == (if b then 1 else 0)
  | .int a, .int b => a == b
  | .str a, .str b => decide (a = b)
  | _, _ => false
def inL (x : D) (ds : List D) : Option Bool := if isFlat x = true ∧ ds.all isFlat = true then some (ds.any fun y => eqF y x) else none
def inD (neg : Bool) : F2 := fun x y => match y with
  | .lst ds => (inL x ds).bind fun b => some (.bl (xor neg b))
  | .tup ds => (inL x ds).bind fun b => some (.bl (xor neg b))
  | .dct its => (keyOk x).bind fun k => some (.bl (xor neg (dfind its k).isSome))
  | _ => none
theorem eqF_V {c : RC} {G : Hp} {x y : D} {v u : V} (hx : Rep c G x v) (hy : Rep c G y u) (f1 : isFlat x = true) (f2 : isFlat y = true) : eqF x y = eqV v u := by
  cases x <;> first
    | (exfalso; exact Bool.false_ne_true f1)
    | (cases y <;> first
        | (exfalso; exact Bool.false_ne_true f2)
        | (simp only [Rep] at hx hy; subst hx hy; rfl))
theorem flat_V {c : RC} {G : Hp} {x : D} {v : V} (hx : Rep c G x v) (f : isFlat x = true) : flatV v = true := by
  cases x <;> first
    | (exfalso; exact Bool.false_ne_true f)
    | (simp only [Rep] at hx; subst hx; rfl)
theorem in_V {c : RC} {G : Hp} {x : D} {v : V} (hx : Rep c G x v) (f : isFlat x = true) : ∀ {ds : List D} {vs : List V}, RepL c G ds vs → ds.all isFlat = true → vs.all flatV = true ∧ ds.any (fun y => eqF y x) = inV v vs
  | [], vs, h, _ => by simp only [RepL] at h; subst h; exact ⟨rfl, rfl⟩
  | d :: ds, vs, h, a => by
    obtain ⟨u, r, rfl, h1, h2⟩ := h.uncons
    rw [List.all_cons, Bool.and_eq_true] at a
    obtain ⟨i1, i2⟩ := in_V hx f h2 a.2
    refine ⟨by rw [List.all_cons, flat_V h1 a.1, i1]; rfl, ?_⟩
    rw [List.any_cons, i2, eqF_V h1 hx a.1 f]
    rfl
theorem op_inD (hu : X.A.units + 64 < cLine) : OpR X (compareOp .In) (liftOpV (rc X) (inD false)) := by
  intro pins s σ H v u vv uu Q I rv ru ⟨G, T, sd, σ1, x, y, d, S, rx, ry, e, k⟩
  unfold inD at e
  split at e
  · rename_i ds
    obtain ⟨b, hb, e⟩ := bindS e
    cases e
    obtain ⟨⟨f1, f2⟩, rfl⟩ := ite_some hb
    obtain ⟨a, vs, rfl, q, rl⟩ := ry.l S.same
    obtain ⟨i1, i2⟩ := in_V rx f1 rl f2
    refine op_in_seq pins s σ H v (.ref a) vv uu Q I rv ru ⟨a, vs, rfl, .inl (SqL.of q), flat_V rx f1, i1, ?_⟩
    simp only [Bool.false_eq_true, if_false]
    rw [← i2]
    exact k _ G H Same.refl S (by simp [Rep])
  · rename_i ds
    obtain ⟨b, hb, e⟩ := bindS e
    cases e
    obtain ⟨⟨f1, f2⟩, rfl⟩ := ite_some hb
    obtain ⟨a, vs, rfl, q, rl⟩ := ry.t S.same
    obtain ⟨i1, i2⟩ := in_V rx f1 rl f2
    refine op_in_seq pins s σ H v (.ref a) vv uu Q I rv ru ⟨a, vs, rfl, .inr q, flat_V rx f1, i1, ?_⟩
    simp only [Bool.false_eq_true, if_false]
    rw [← i2]
    exact k _ G H Same.refl S (by simp [Rep])
  · rename_i its
    obtain ⟨nk, hk, e⟩ := bindS e
    cases e
    obtain ⟨a, es, rfl, da, ri⟩ := ry.dc S.same
    cases ru
    obtain ⟨b, rfl, hkey, _, _⟩ := keyIs I S.same rx hk
    cases rv
    obtain ⟨xs, hx, hp⟩ := da.dict I S.same ri
    refine wpAny_in_heap (knd := nestedKind X.prog X.w) (by show X.A.units + 1 + 8 < cLine; omega) hkey da.sys hx ⟨.bl _, H, I.tok _, rfl, ?_⟩
    have e1 : (atKey xs nk).isSome = (dfind its nk).isSome := by
      have h1 := ents_find (k := nk) hp
      have h2 := ri.find (k := nk)
      cases q : dfind its nk with
      | none =>
        rw [q] at h2
        have h2 : efind es nk = none := h2
        rw [h2] at h1
        have h1 : atKey xs nk = none := h1
        rw [h1]; rfl
      | some dd =>
        rw [q] at h2
        obtain ⟨w, h3, _⟩ := h2
        rw [h3] at h1
        obtain ⟨p, h4, _⟩ := h1
        rw [h4]; rfl
    rw [e1]
    exact k _ G H Same.refl S (by simp [Rep])
  · cases e
theorem op_notInD (hu : X.A.units + 64 < cLine) : OpR X (compareOp .NotIn) (liftOpV (rc X) (inD true)) := by
  intro pins s σ H v u vv uu Q I rv ru ⟨G, T, sd, σ1, x, y, d, S, rx, ry, e, k⟩
  unfold inD at e
  split at e
  · rename_i ds
    obtain ⟨b, hb, e⟩ := bindS e
    cases e
    obtain ⟨⟨f1, f2⟩, rfl⟩ := ite_some hb
    obtain ⟨a, vs, rfl, q, rl⟩ := ry.l S.same
    obtain ⟨i1, i2⟩ := in_V rx f1 rl f2
    refine op_notIn_seq pins s σ H v (.ref a) vv uu Q I rv ru ⟨a, vs, rfl, .inl (SqL.of q), flat_V rx f1, i1, ?_⟩
    simp only [if_true]
    rw [← i2]
    exact k _ G H Same.refl S (by simp [Rep])
  · rename_i ds
    obtain ⟨b, hb, e⟩ := bindS e
    cases e
    obtain ⟨⟨f1, f2⟩, rfl⟩ := ite_some hb
    obtain ⟨a, vs, rfl, q, rl⟩ := ry.t S.same
    obtain ⟨i1, i2⟩ := in_V rx f1 rl f2
    refine op_notIn_seq pins s σ H v (.ref a) vv uu Q I rv ru ⟨a, vs, rfl, .inr q, flat_V rx f1, i1, ?_⟩
    simp only [if_true]
    rw [← i2]
    exact k _ G H Same.refl S (by simp [Rep])
  · rename_i its
    obtain ⟨nk, hk, e⟩ := bindS e
    cases e
    obtain ⟨a, es, rfl, da, ri⟩ := ry.dc S.same
    cases ru
    obtain ⟨b, rfl, hkey, _, _⟩ := keyIs I S.same rx hk
    cases rv
    obtain ⟨xs, hx, hp⟩ := da.dict I S.same ri
    have e1 : (atKey xs nk).isSome = (dfind its nk).isSome := by
      have h1 := ents_find (k := nk) hp
      have h2 := ri.find (k := nk)
      cases q : dfind its nk with
      | none =>
        rw [q] at h2
        have h2 : efind es nk = none := h2
        rw [h2] at h1
        have h1 : atKey xs nk = none := h1
        rw [h1]; rfl
      | some dd =>
        rw [q] at h2
        obtain ⟨w, h3, _⟩ := h2
        rw [h3] at h1
        obtain ⟨p, h4, _⟩ := h1
        rw [h4]; rfl
    have kx : s.heap.DictKeyed (nestedKind X.prog X.w) a (pairsH xs) := ⟨xs, hx, rfl⟩
    refine notIn_keyed (knd := nestedKind X.prog X.w) (by show X.A.units + 1 + 8 < cLine; omega) hkey da.sys kx ⟨.bl _, H, I.tok _, rfl, ?_⟩
    rw [valueAt_pairsH, Option.isSome_map, e1]
    exact k _ G H Same.refl S (by simp [Rep])
  · cases e
/-! ### d.get(k, x) of a slot's dict -/
def getB (d k x : D) : Option D := match d with
  | .dct its => (keyOk k).bind fun nk => some ((dfind its nk).getD x)
  | _ => none
def isDct : D → Bool
  | .dct _ => true
  | _ => false
def dGet (i : Nat) (tk td : TF) : TF := fun sd => match sd[i]? with
  | some (some dv0) => if isDct dv0.d = true then (tk sd).bind fun p => (td p.2).bind fun q => match q.2[i]? with
      | some (some dv) => (getB dv.d p.1 q.1).bind fun d => some (d, q.2)
      | _ => none
    else none
  | _ => none
theorem View.dctAt {pins : List (Addr × Obj)} {σ : L2.St} {G H : Hp} {s : Shared} (I : Inv X pins σ H s) (hs : Same G H) {d : D} {v : V} {u : Value} (h : View (rc X) G H d v) (f : isDct d = true) (r : RelV v u) :
    ∃ a, v = .ref a ∧ u = .ref a ∧ s.TypeIs u "dict" ∧ (∀ b, u = .ref b → ∃ ob, s.heap.get? b = some ob ∧ ob.dict = none) ∧ (a == sysModules) = false := by
  cases d with
  | dct its =>
    obtain ⟨a, es, rfl, da, ri⟩ := h.dc hs
    cases r
    obtain ⟨o, hat⟩ := da.at_
    obtain ⟨⟨ents, ep, xs, ho, hx, hd, he, hp⟩, _, _⟩ := I.hok a _ hat
    refine ⟨a, rfl, rfl, ⟨o, ho, hx.1⟩, fun b e => ?_, da.sys⟩
    cases e
    exact ⟨o, ho, hx.2.1⟩
  | _ => cases f
theorem df_get2 {i : Nat} {o e f : Expr} {apos cpos : Pos} {tk td : TF} (hu : X.A.units + 64 < cLine) (ho : PE X o (tVar i)) (he : DF X e tk) (hf : DF X f td) (m : M2 X o "get" apos e f cpos) : DF X (.Call (.Attribute o "get" apos) [e, f] [] cpos) (dGet i tk td) := by
  refine ⟨fun pins s σ H Q I ⟨G, T, sd, d, sd', S, e1, k⟩ => ?_⟩
  unfold dGet at e1
  split at e1
  case h_2 => cases e1
  case h_1 dv0 h0 =>
  obtain ⟨w, hw, r0⟩ := S.slots i _ h0
  split at e1
  case isFalse => cases e1
  case isTrue hd0 =>
  obtain ⟨p, hp, e1⟩ := bindS e1
  obtain ⟨q, hq, e1⟩ := bindS e1
  refine wpAny_Call_method m.base m.few m.line PySem.F.plainAttrs_dict PySem.F.slot_dict_get PySem.F.type_dict_get (thn (ho.run pins s σ H (fun x H1 => x = w ∧ H1 = H) I ⟨w, hw, rfl, rfl⟩) fun u s1 ⟨x, H1, I1, rx, ex, eH⟩ => ?_)
  subst ex eH
  obtain ⟨a, rfl, rfl, t1, t2, _⟩ := (r0.view).dctAt I1 S.same hd0 rx
  refine ⟨t1, t2, ?_⟩
  rw [m.trees]
  refine Calls.callWith_builtin rfl (Calls.evalArgs_plain (Calls.spliced_cons (thn (he.run pins s1 σ _ (fun y H2 => ∃ G2, Same G G2 ∧ StOk (rc X) G2 T p.2 σ H2 ∧ Rep (rc X) G2 p.1 y) I1 ⟨G, T, sd, p.1, p.2, S, hp, fun v G' H' s S' r => ⟨G', s, S', r⟩⟩) fun iv s2 ⟨y, H2, I2, ry, G2, g2, S2, rk⟩ =>
    Calls.spliced_cons (thn (hf.run pins s2 σ H2 (fun z H3 => ∃ G3, Same G2 G3 ∧ StOk (rc X) G3 T q.2 σ H3 ∧ Rep (rc X) G3 q.1 z) I2 ⟨G2, T, p.2, q.1, q.2, S2, hq, fun v G' H' s S' r => ⟨G', s, S', r⟩⟩) fun fv s3 ⟨z, H3, I3, rz, G3, g3, S3, rd⟩ => Calls.spliced_nil ?_))))
  split at e1
  case h_2 => cases e1
  case h_1 dv h2 =>
  obtain ⟨d', e2, e1⟩ := bindS e1
  cases e1
  have rv := (S3.at_ h2 hw).view
  unfold getB at e2
  split at e2
  case h_2 => cases e2
  case h_1 its hdv =>
  obtain ⟨nk, hk, e2⟩ := bindS e2
  cases e2
  rw [hdv] at rv
  obtain ⟨a', es, ea, da, ri⟩ := rv.dc S3.same
  cases ea
  obtain ⟨b, rfl, hkey, _, _⟩ := keyIs I3 S3.same (Rep.mono g3 _ _ rk) hk
  cases ry
  obtain ⟨xs, hx, hpp⟩ := da.dict I3 S3.same ri
  refine call_meetsIn PySem.F.slot_dict_get hx.typeIs PySem.F.entry_dict_get (PySem.F.args_dict_get_3 _ _ _) (meetsH_dict_get_default (nestedKind X.prog X.w) a b da.sys fv) ⟨by show X.A.units + 1 + 8 < cLine; omega, nk, xs, hkey, hx, ?_⟩
  have h1 := ents_find (k := nk) hpp
  have h3 := ri.find (k := nk)
  have sall : Same G G3 := Same.tr g2 g3
  cases q1 : dfind its nk with
  | none =>
    rw [q1] at h3 k
    have h3 : efind es nk = none := h3
    rw [h3] at h1
    have h1 : atKey xs nk = none := h1
    rw [h1]
    exact ⟨z, H3, I3.tok _, rz, k z G3 H3 sall S3 rd⟩
  | some dd =>
    rw [q1] at h3 k
    obtain ⟨w2, h4, rw2⟩ := h3
    rw [h4] at h1
    obtain ⟨pp, h5, r5⟩ := h1
    rw [h5]
    exact ⟨w2, H3, I3.tok _, r5, k w2 G3 H3 sall S3 rw2⟩
end
end DS
end

section
set_option Elab.async false
set_option linter.all false
set_option maxRecDepth 100000
set_option maxHeartbeats 1000000
namespace DS
open PySem PySem.Spec PyProof.Rows L2 HT
theorem adjust_rev (n : Nat) : Builtin.Slice.sliceAdjust none none (-1) (n : Int) = ((n : Int) - 1, -1) := by
  unfold Builtin.Slice.sliceAdjust
  simp
theorem places_rev (n : Nat) : Builtin.Slice.slicePlaces ((n : Int) - 1) (-1) (-1) = n := by
  unfold Builtin.Slice.slicePlaces
  simp
  omega
theorem pick_rev (xs : Array Value) : ((List.range xs.size).filterMap fun (m : Nat) => xs[((xs.size : Int) - 1 + (m : Int) * -1).toNat]?).toArray = xs.toList.reverse.toArray := by
  have e : (List.range xs.size).filterMap (fun (m : Nat) => xs[((xs.size : Int) - 1 + (m : Int) * -1).toNat]?) = ((List.range xs.size).map fun k => xs.size - 1 - k).filterMap (xs[·]?) := by
    rw [List.filterMap_map]
    congr 1
    funext m
    have : ((xs.size : Int) - 1 + (m : Int) * -1).toNat = xs.size - 1 - m := by omega
    rw [this]; rfl
  rw [e, PySem.W.krv_range, List.filterMap_reverse, PySem.W.krv_all]
section
variable {prog : Program} {w : World} {A : Around} {E : Value → Shared → Prop} {s : Shared}
theorem getItem_tuple_rev {t sl : Addr} {items : Array Value} {vl vu vk : Value} {Q : Value → Shared → Prop} (ht : IsTup s.heap t items) (hs : s.heap.IsSliceOf sl vl vu vk) (pl : IsPart vl none) (pu : IsPart vu none) (pk : IsPart vk (some (-1)))
    (h : Q (.ref s.heap.objs.size) { s with heap := s.heap.push { cls := .type "tuple", data := .seq items.toList.reverse.toArray } })
    (hsz : items.size ≤ sizeLine) : wpAny (model prog w) A (getItem (.ref t) (.ref sl)) Q E s := by
  have htake : sizeOk (.seq items.toList.reverse.toArray) := by
    show items.toList.reverse.toArray.size ≤ sizeLine
    rw [List.size_toArray, List.length_reverse, Array.length_toList]
    exact hsz
  obtain ⟨os, hos, hcs, hds⟩ := id hs
  have hTs : s.TypeIs (.ref sl) "slice" := ⟨os, hos, hcs⟩
  unfold getItem
  try with_reducible refine wpAny_holding ?_
  first | refine wpAny_bind (wpAny_pure ?_) | skip
  refine wpAny_bind (wpAny_sequenceKey ht.typeIs (by decide) ?_)
  refine wpAny_bind (wpAny_callSpecial?_slot (name := Str.ofString "__getitem__") ht.typeIs PyProof.Rows.slot_tuple_getitem
    (wpAny_call_entry PyProof.Rows.slot_tuple_getitem ht.typeIs entry_tuple_getitem ?_ (args_tuple_getitem _ _)))
  show wpAny _ _ (Builtin.Tuple.tupleItemsOf (.ref t) >>= _) _ _ s
  refine wpAny_bind (tupleItemsOf_ ht ?_)
  refine wpAny_bind (wpAny_typeOf hTs ?_)
  rw [if_pos (by decide)]
  refine wpAny_bind ?_
  · unfold Builtin.Slice.sliceApplied Builtin.Slice.sliceFields
    refine wpAny_bind (wpAny_bind (wpAny_field hos hds (x := vl) rfl (wpAny_bind (wpAny_field hos hds (x := vu) rfl (wpAny_bind (wpAny_field hos hds (x := vk) rfl (wpAny_pure ?_)))))))
    refine wpAny_bind (slicePart_ pk ?_)
    show wpAny _ _ (if ((-1 : Int) == 0) = true then _ else _) _ _ s
    rw [if_neg (by decide)]
    refine wpAny_bind (slicePart_ pl (wpAny_bind (slicePart_ pu (wpAny_bind (wpAny_pure ?_)))))
    show wpAny _ _ (match Builtin.Slice.sliceAdjust none none (-1) (items.size : Int) with | (lo, hi) => pure (lo, (-1 : Int), Builtin.Slice.slicePlaces lo hi (-1))) _ _ s
    rw [adjust_rev]
    show wpAny _ _ (pure ((items.size : Int) - 1, (-1 : Int), Builtin.Slice.slicePlaces ((items.size : Int) - 1) (-1) (-1))) _ _ s
    rw [places_rev]
    refine wpAny_pure ?_
    have hno : ¬ ((((items.size : Int) - 1) == 0 && (-1 : Int) == 1 && items.size == items.size) = true) := by
      intro q
      rw [Bool.and_eq_true, Bool.and_eq_true] at q
      exact absurd q.1.2 (by decide)
    show wpAny _ _ (if (((items.size : Int) - 1) == 0 && (-1 : Int) == 1 && items.size == items.size) = true then _ else _) _ _ s
    rw [if_neg hno, pick_rev]
    first
      | exact wpAny_bind (m := Builtin.Tuple.tupleExact _) (wpAny_newObj_type (wpAny_pure ⟨_, rfl, wpAny_pure h⟩) htake)
      | exact wpAny_bind (m := Builtin.Tuple.tupleExact _) (wpAny_newObj_type (wpAny_bind (wpAny_pure (wpAny_pure ⟨_, rfl, wpAny_pure h⟩))) htake)
      | exact wpAny_bind (wpAny_bind (m := Builtin.Tuple.tupleExact _) (wpAny_newObj_type (wpAny_pure (wpAny_pure ⟨_, rfl, wpAny_pure h⟩)) htake))
      | exact wpAny_bind (wpAny_bind (m := Builtin.Tuple.tupleExact _) (wpAny_newObj_type (wpAny_pure ⟨_, rfl, wpAny_pure h⟩) htake))
end

section
variable {X : Cx} {fx : List Nat}
/-! ### x[::-1] -/
def tRevA (K : PySem.W.Frag) (te : TE) : TE := fun σ H Q => te σ H fun x H1 => ∃ a xs, x = .ref a ∧ ((SqL K H1 a xs ∧ ∀ p, H1 p = none → Q (.ref p) (upd H1 p (.lst xs.reverse))) ∨ (SqT K H1 a xs ∧ ∀ p, H1 p = none → Q (.ref p) (upd H1 p (.tup xs.reverse))))
theorem pe_revA {e : Expr} {te : TE} {k : Nat} {p1 p2 p3 pos : Pos} (he : PE X e te) : PE X (.Subscript e (.Slice none none (some (.UnaryOp .USub (.Constant (.int 1) k p1) p2)) p3) pos) (tRevA X.K te) := by
  refine ⟨fun pins s σ H Q I h => ?_⟩
  refine Subscript_ (thn (he.run pins s σ H _ I h) fun v s1 ⟨x, H1, I1, r1, q1⟩ => ?_)
  obtain ⟨a, xs, ex, q1⟩ := q1
  subst ex
  cases r1
  have hst : PO X (some (.UnaryOp .USub (.Constant (.int 1) k p1) p2)) (tPart (tUn (rU fun i => .int (-i)) (tC (.int 1)))) := po_some (pe_un un_neg pe_int)
  refine wpAny_Slice (thn (po_none.run pins s1 σ H1 (fun o H2 => o = none ∧ H2 = H1) I1 ⟨rfl, rfl⟩) fun vl s2 ⟨l, H2, I2, pl, el, e2⟩ => ?_)
  subst el e2
  refine thn (po_none.run pins s2 σ H2 (fun o H3 => o = none ∧ H3 = H2) I2 ⟨rfl, rfl⟩) fun vu s3 ⟨u, H3, I3, pu, eu, e3⟩ => ?_
  subst eu e3
  refine thn (hst.run pins s3 σ H3 (fun o H4 => o = some (-1) ∧ H4 = H3) I3 ⟨1, rfl, -1, rfl, rfl, rfl⟩) fun vs s4 ⟨o, H4, I4, ps, eo, e4⟩ => ?_
  subst eo e4
  have I5 : Inv X pins σ H4 { s4 with heap := s4.heap.push { cls := .type "slice", data := .fields #[vl, vu, vs] } } := I4.kept (t' := s4.toks) fun b ob q => Heap.get?_push_of_some _ q
  show wpAny (model X.prog X.w) X.A (subscriptTail e (.Slice none none (some (.UnaryOp .USub (.Constant (.int 1) k p1) p2)) p3) (.ref a) (.ref s4.heap.objs.size)) (EP X pins σ Q) X.xe { s4 with heap := s4.heap.push { cls := .type "slice", data := .fields #[vl, vu, vs] } }
  rcases q1 with ⟨hx, q⟩ | ⟨hx, q⟩
  · obtain ⟨its, r, ht, hz⟩ := I5.list hx
    have hlen := r.length
    refine tail_any (ops := [.ref a, .ref s4.heap.objs.size]) ht.isList.typeIs (PySem.slot_list_getitem.lookup) ?_ (by with_unfolding_all rfl)
    refine wpAny_getItem_list_slice ht.isList (Heap.IsSliceOf.new _ vl vu vs) pl pu ps (by decide) ?_ (by rw [List.size_toArray]; omega)
    rw [PySem.W.krv_pick]
    refine ⟨.ref _, _, I5.laid (t' := s4.toks) (o := .lst xs.reverse) (fun b ob q => Heap.get?_push_of_some _ q) (Nat.le_refl _) ?_, rfl, q _ (I5.hok.fresh (Nat.le_refl _))⟩
    exact ⟨by rw [List.length_reverse]; exact hz, _, 0, r.reverse, Heap.get?_push_size _ rfl⟩
  · obtain ⟨its, r, ht, hz⟩ := I5.tuple hx
    have hlen := r.length
    refine tail_any (ops := [.ref a, .ref s4.heap.objs.size]) ht.typeIs (PyProof.Rows.slot_tuple_getitem.lookup) ?_ (by with_unfolding_all rfl)
    refine getItem_tuple_rev ht (Heap.IsSliceOf.new _ vl vu vs) pl pu ps ?_ (by rw [List.size_toArray]; omega)
    refine ⟨.ref _, _, I5.laid (t' := s4.toks) (o := .tup xs.reverse) (fun b ob q => Heap.get?_push_of_some _ q) (Nat.le_refl _) ?_, rfl, q _ (I5.hok.fresh (Nat.le_refl _))⟩
    exact ⟨by rw [List.length_reverse]; exact hz, _, r.reverse, IsTup.new _ _⟩
def revD : D → Option DV
  | .tup ds => some (.fz (.tup ds.reverse))
  | .lst ds => some (.ow (.lst ds.reverse))
  | _ => none
def dRev (t : TF) : TV := fun sd => (t sd).bind fun p => (revD p.1).bind fun r => some (r, p.2)
theorem dv_rev {e : Expr} {t : TF} {k : Nat} {p1 p2 p3 pos : Pos} (h : DF X e t) : DVE X (.Subscript e (.Slice none none (some (.UnaryOp .USub (.Constant (.int 1) k p1) p2)) p3) pos) (dRev t) :=
  PEi (pe_revA h) fun σ H Q ⟨G, T, sd, r, sd', S, e1, kk⟩ => by
    obtain ⟨p, hp, e1⟩ := bindS e1
    obtain ⟨r1, hr, e1⟩ := bindS e1
    cases e1
    refine ⟨G, T, sd, p.1, p.2, S, hp, fun v G1 H1 s1 S1 rv => ?_⟩
    unfold revD at hr
    split at hr
    · rename_i ds hd
      cases hr
      rw [hd] at rv
      obtain ⟨a, vs, rfl, q, rl⟩ := rv.t
      refine ⟨a, vs, rfl, .inr ⟨SqT.mono q S1.same, fun m hm => ?_⟩⟩
      have gn := S1.gnone hm
      exact kk _ _ _ (Same.tr s1 (same_upd gn)) (S1.laid hm) (show Rep _ _ (.tup _) _ from Rep.newT gn rl.reverse) True.intro
    · rename_i ds hd
      cases hr
      rw [hd] at rv
      obtain ⟨a, vs, rfl, q, rl⟩ := rv.l
      refine ⟨a, vs, rfl, .inl ⟨SqL.of (S1.same _ _ q), fun m hm => ?_⟩⟩
      exact kk _ G1 _ s1 (S1.more hm) ⟨m, rfl, S1.gnone hm, Same.nn S1.sameT hm, _, upd_same, rl.reverse⟩ (S1.fresh_new hm)
    · cases hr

/-! ### methods of a slot's list -/
def MtMi {id : String} {r r' : V → List V → Hp → VK → Prop} (h : MtM X id r) (i : ∀ x xs H Q, r' x xs H Q → r x xs H Q) : MtM X id r' := fun pins s σ H x xs v us Q I rx rs q => h pins s σ H x xs v us Q I rx rs (i x xs H Q q)
def dApp (i : Nat) (t : TF) : TF := fun sd => match sd[i]? with
  | some (some (.ow (.lst _))) => (t sd).bind fun p => match p.2[i]? with
    | some (some (.ow (.lst ds))) => if ds.length < sizeLine then some (.non, p.2.set i (some (.ow (.lst (ds ++ [p.1]))))) else none
    | _ => none
  | _ => none
theorem df_app {i : Nat} {o e : Expr} {t : TF} {apos cpos : Pos} (ho : PE X o (tVar i)) (h : DF X e t) (hb : attributeBase o "append" X.env (eval o X.env) = eval o X.env := by rfl)
    (hf : ((backTo cpos (starEach [e] X.env)).all (fun x => !x.1) && (backToKw cpos (keywordEach [] X.env)).all (fun x => x.1.isSome) && decide (([e] : List Expr).length + ([] : List Keyword).length + (if ([] : List Keyword).isEmpty then 0 else 1) < 30)) = true := by rfl)
    (hl : (apos.endLine == cpos.line) = true := by rfl) (hs : starEach [e] X.env = (false, eval e X.env) :: starEach [] X.env := by rfl) (hp : (backTo cpos (starEach [] X.env)).any (·.1) = false := by rfl) :
    DF X (.Call (.Attribute o "append" apos) [e] [] cpos) (dApp i t) :=
  PEi (pe_bm PySem.F.plainAttrs_list PySem.F.slot_list_append PySem.F.type_list_append mt_append ho (pa_cons h pa_nil hs) hb hf hl hs hp) fun σ H Q ⟨G, T, sd, d, sd', S, e1, k⟩ => by
    unfold dApp at e1
    split at e1
    · rename_i d0 h0
      obtain ⟨p, hp, e1⟩ := bindS e1
      split at e1
      · rename_i ds h2
        obtain ⟨hz, e2⟩ := ite_some e1
        cases e2
        obtain ⟨v, hv, p0, rfl, a1, a2, vs0, hp0, _⟩ := S.slots i _ h0
        refine ⟨.ref p0, hv, .inl ⟨rfl, vs0, SqL.of hp0⟩, G, T, sd, p.1, p.2, S, hp, fun w G1 H1 s1 S1 r1 => ?_⟩
        obtain ⟨p1, e3, b1, b2, vs, hp1, rl⟩ := S1.at_ h2 hv
        cases e3
        refine ⟨p0, vs, w, rfl, rfl, hp1, by rw [rl.length]; exact hz, ?_⟩
        exact k .non G1 _ s1 (S1.write h2 hv ⟨_, upd_same, rl.append (RepL.one r1)⟩) (Rep.non ..)
      · cases e1
    · cases e1
def dExt (i : Nat) (t : TF) : TF := fun sd => match sd[i]? with
  | some (some (.ow (.lst _))) => (t sd).bind fun p => match p.2[i]?, p.1 with
    | some (some (.ow (.lst ds))), .lst es => if ds.length + es.length ≤ sizeLine then some (.non, p.2.set i (some (.ow (.lst (ds ++ es))))) else none
    | _, _ => none
  | _ => none
theorem df_ext {i : Nat} {o e : Expr} {t : TF} {apos cpos : Pos} (ho : PE X o (tVar i)) (h : DF X e t) (hb : attributeBase o "extend" X.env (eval o X.env) = eval o X.env := by rfl)
    (hf : ((backTo cpos (starEach [e] X.env)).all (fun x => !x.1) && (backToKw cpos (keywordEach [] X.env)).all (fun x => x.1.isSome) && decide (([e] : List Expr).length + ([] : List Keyword).length + (if ([] : List Keyword).isEmpty then 0 else 1) < 30)) = true := by rfl)
    (hl : (apos.endLine == cpos.line) = true := by rfl) (hs : starEach [e] X.env = (false, eval e X.env) :: starEach [] X.env := by rfl) (hp : (backTo cpos (starEach [] X.env)).any (·.1) = false := by rfl) :
    DF X (.Call (.Attribute o "extend" apos) [e] [] cpos) (dExt i t) :=
  PEi (pe_bm PySem.F.plainAttrs_list PySem.F.slot_list_extend PySem.F.type_list_extend mt_extend ho (pa_cons h pa_nil hs) hb hf hl hs hp) fun σ H Q ⟨G, T, sd, d, sd', S, e1, k⟩ => by
    unfold dExt at e1
    split at e1
    · rename_i d0 h0
      obtain ⟨p, hp, e1⟩ := bindS e1
      split at e1
      · rename_i ds es h2 hes
        obtain ⟨hz, e2⟩ := ite_some e1
        cases e2
        obtain ⟨v, hv, p0, rfl, a1, a2, vs0, hp0, _⟩ := S.slots i _ h0
        refine ⟨.ref p0, hv, .inl ⟨rfl, vs0, SqL.of hp0⟩, G, T, sd, p.1, p.2, S, hp, fun w G1 H1 s1 S1 r1 => ?_⟩
        obtain ⟨p1, e3, b1, b2, vs, hp1, rl⟩ := S1.at_ h2 hv
        cases e3
        rw [hes] at r1
        obtain ⟨b, us, rfl, hus, ru⟩ := r1.l
        refine ⟨p0, b, vs, us, rfl, rfl, hp1, S1.same _ _ hus, by rw [rl.length, ru.length]; exact hz, ?_⟩
        exact k .non G1 _ s1 (S1.write h2 hv ⟨_, upd_same, rl.append ru⟩) (Rep.non ..)
      · cases e1
    · cases e1
/-- the first place of a plain item in a list of plain items -/
def idxD (d x : D) : Option D := match d with
  | .lst ds => if isFlat x = true ∧ ds.all isFlat = true then (ds.findIdx? fun y => eqF y x).bind fun j => some (.int j) else none
  | _ => none
def dIdx (i : Nat) (t : TF) : TF := fun sd => match sd[i]? with
  | some (some dv0) => (match dv0.d with
    | .lst _ => (t sd).bind fun p => match p.2[i]? with
      | some (some dv) => (idxD dv.d p.1).bind fun d => some (d, p.2)
      | _ => none
    | _ => none)
  | _ => none
theorem idx_V {c : RC} {G : Hp} {x : D} {v : V} (hx : Rep c G x v) (f : isFlat x = true) : ∀ {ds : List D} {vs : List V} {j : Nat}, RepL c G ds vs → ds.all isFlat = true → ds.findIdx? (fun y => eqF y x) = some j →
    ∃ z, vs[j]? = some z ∧ eqV z v = true ∧ ∀ (m : Nat) (z' : V), m < j → vs[m]? = some z' → eqV z' v = false
  | [], vs, j, h, _, e => by simp at e
  | d :: ds, vs, j, h, a, e => by
    obtain ⟨u, r, rfl, h1, h2⟩ := h.uncons
    rw [List.all_cons, Bool.and_eq_true] at a
    rw [List.findIdx?_cons] at e
    have he := eqF_V h1 hx a.1 f
    split at e
    · rename_i hh
      cases e
      exact ⟨u, rfl, by rw [← he]; exact hh, fun m z' hm => absurd hm (Nat.not_lt_zero _)⟩
    · rename_i hh
      cases q : ds.findIdx? (fun y => eqF y x) with
      | none => rw [q] at e; cases e
      | some j' =>
        rw [q] at e
        cases e
        obtain ⟨z, e1, e2, e3⟩ := idx_V hx f h2 a.2 q
        refine ⟨z, by simpa using e1, e2, fun m z' hm e4 => ?_⟩
        cases m with
        | zero =>
          simp only [List.getElem?_cons_zero, Option.some.injEq] at e4
          subst e4
          rw [← he]
          simpa using hh
        | succ m => exact e3 m z' (Nat.lt_of_succ_lt_succ hm) (by simpa using e4)
theorem df_idx {i : Nat} {o e : Expr} {t : TF} {apos cpos : Pos} (ho : PE X o (tVar i)) (h : DF X e t) (hb : attributeBase o "index" X.env (eval o X.env) = eval o X.env := by rfl)
    (hf : ((backTo cpos (starEach [e] X.env)).all (fun x => !x.1) && (backToKw cpos (keywordEach [] X.env)).all (fun x => x.1.isSome) && decide (([e] : List Expr).length + ([] : List Keyword).length + (if ([] : List Keyword).isEmpty then 0 else 1) < 30)) = true := by rfl)
    (hl : (apos.endLine == cpos.line) = true := by rfl) (hs : starEach [e] X.env = (false, eval e X.env) :: starEach [] X.env := by rfl) (hp : (backTo cpos (starEach [] X.env)).any (·.1) = false := by rfl) :
    DF X (.Call (.Attribute o "index" apos) [e] [] cpos) (dIdx i t) :=
  PEi (pe_bm PySem.F.plainAttrs_list PySem.F.slot_list_index PySem.F.type_list_index mt_index ho (pa_cons h pa_nil hs) hb hf hl hs hp) fun σ H Q ⟨G, T, sd, d, sd', S, e1, k⟩ => by
    unfold dIdx at e1
    split at e1
    · rename_i dv0 h0
      split at e1
      · rename_i ds0 hd0
        obtain ⟨p, hp, e1⟩ := bindS e1
        split at e1
        · rename_i dv h2
          obtain ⟨d', e2, e1⟩ := bindS e1
          cases e1
          obtain ⟨v, hv, r0⟩ := S.slots i _ h0
          have w0 := r0.view
          rw [hd0] at w0
          obtain ⟨a0, vs0, rfl, q0, _⟩ := w0.l S.same
          refine ⟨.ref a0, hv, .inl ⟨rfl, vs0, SqL.of q0⟩, G, T, sd, p.1, p.2, S, hp, fun w G1 H1 s1 S1 r1 => ?_⟩
          have w1 := (S1.at_ h2 hv).view
          unfold idxD at e2
          split at e2
          · rename_i ds hds
            obtain ⟨⟨f1, f2⟩, e2⟩ : (isFlat p.1 = true ∧ ds.all isFlat = true) ∧ ((ds.findIdx? fun y => eqF y p.1).bind fun j => some (.int j)) = some d := by
              split at e2
              · rename_i hh; exact ⟨hh, e2⟩
              · cases e2
            obtain ⟨j, hj, e2⟩ := bindS e2
            cases e2
            rw [hds] at w1
            obtain ⟨a, vs, ea, q, rl⟩ := w1.l S1.same
            cases ea
            obtain ⟨z, e3, e4, e5⟩ := idx_V r1 f1 rl f2 hj
            obtain ⟨i1, _⟩ := in_V r1 f1 rl f2
            exact ⟨a0, vs, w, j, z, rfl, rfl, SqL.of q, flat_V r1 f1, i1, e3, e4, e5, k _ G1 H1 s1 S1 (Rep.int ..)⟩
          · cases e2
        · cases e1
      · cases e1
    · cases e1
end
end DS
end

section
set_option Elab.async false
set_option linter.all false
set_option maxRecDepth 100000
set_option maxHeartbeats 1000000
namespace DS
open PySem PySem.Spec PyProof.Rows L2
/-! ### what a loop walks -/
theorem Grow.refl {G H : Hp} : Grow G H G H := fun _ => .inl ⟨rfl, rfl⟩
theorem Grow.new {G H : Hp} {T : Addr} {o : HO} (h : H T = none) : Grow G H (upd G T o) (upd H T o) := fun a => by
  by_cases e : a = T
  · subst e; exact .inr ⟨h, o, upd_same, .inr upd_same⟩
  · exact .inl ⟨upd_ne e, upd_ne e⟩
section
variable {c : RC} {G : Hp}
theorem wlk_list {a : Addr} {vs : List V} {ds : List D} (q : SqL c.K G a vs) (r : RepL c G ds vs) : Wlk c (Itl c.K a) G ds := fun i G1 H s1 s2 => by
  have q2 : SqL c.K H a vs := SqL.mono (SqL.mono q s1) s2
  refine ⟨fun x hx => ?_, fun hi => ⟨vs, q2, by rw [r.length]; exact hi⟩⟩
  obtain ⟨v, hv, rv⟩ := r.get hx
  refine ⟨⟨vs, v, q2, hv⟩, fun w H' ⟨e, y⟩ => ?_⟩
  subst e
  have := y vs q2
  rw [hv] at this; cases this
  exact ⟨G1, Same.refl, Grow.refl, Rep.mono s1 _ _ rv⟩
theorem wlk_tup {a : Addr} {vs : List V} {ds : List D} (q : SqT c.K G a vs) (r : RepL c G ds vs) : Wlk c (Itt c.K a) G ds := fun i G1 H s1 s2 => by
  have q2 : SqT c.K H a vs := SqT.mono (SqT.mono q s1) s2
  refine ⟨fun x hx => ?_, fun hi => ⟨vs, q2, by rw [r.length]; exact hi⟩⟩
  obtain ⟨v, hv, rv⟩ := r.get hx
  refine ⟨⟨vs, v, q2, hv⟩, fun w H' ⟨e, y⟩ => ?_⟩
  subst e
  have := y vs q2
  rw [hv] at this; cases this
  exact ⟨G1, Same.refl, Grow.refl, Rep.mono s1 _ _ rv⟩
def rngD (lo : Int) (n : Nat) : List D := (List.range n).map fun (i : Nat) => D.int (lo + i)
theorem wlk_range {lo : Int} {n : Nat} : Wlk c (Itr lo n) G (rngD lo n) := fun i G1 H s1 s2 => by
  unfold rngD
  refine ⟨fun x hx => ?_, fun hi => by show n ≤ i; simpa using hi⟩
  rw [List.getElem?_map] at hx
  by_cases hi : i < n
  · rw [List.getElem?_range hi] at hx
    cases hx
    exact ⟨hi, fun v H' ⟨e1, e2⟩ => by subst e1 e2; exact ⟨G1, Same.refl, Grow.refl, Rep.int ..⟩⟩
  · rw [List.getElem?_eq_none (by simpa using hi)] at hx; cases hx
end
section
variable {X : Cx} {tg : Expr} {fx : List Nat}
/-! ### a list or a tuple -/
def iSeq (K : PySem.W.Frag) (tl : TE) : TI := fun σ H R => tl σ H fun x H1 => ∃ a, x = .ref a ∧ (((∃ xs, SqL K H1 a xs) ∧ R (Itl K a) H1) ∨ ((∃ xs, SqT K H1 a xs) ∧ R (Itt K a) H1))
theorem pi_seq {l : Expr} {tl : TE} (hl : PE X l tl) : PI X tg l (iSeq X.K tl) := by
  refine ⟨fun pins s σ H R I h => ?_⟩
  refine thn (hl.run pins s σ H _ I h) fun v s1 ⟨x, H1, I1, r1, q1⟩ => ?_
  obtain ⟨a, e, q1⟩ := q1
  subst e
  cases r1
  rcases q1 with ⟨⟨xs, hq⟩, q⟩ | ⟨⟨xs, hq⟩, q⟩
  · obtain ⟨its, rv, p, hz⟩ := I1.list hq
    refine wpAny_pyIter_list p.isList ?_
    refine ⟨s1.heap.objs.size, [s1.heap.objs.size], _, _, H1, rfl, I1.kept (t' := s1.toks) fun b o e => Heap.get?_push_of_some _ e, turn_list a _, ⟨_, Heap.get?_push_size _ rfl, rfl, rfl⟩, fun b hb => ?_, q⟩
    have e : b = s1.heap.objs.size := by simpa using hb
    subst e
    exact I1.fpOk (Nat.le_refl _) (I1.hok.fresh (Nat.le_refl _))
  · obtain ⟨its, rv, p, hz⟩ := I1.tuple hq
    refine wpAny_pyIter_tuple (show s1.heap.IsTuple a its.toArray from p) ?_
    refine ⟨s1.heap.objs.size, [s1.heap.objs.size], _, _, H1, rfl, I1.kept (t' := s1.toks) fun b o e => Heap.get?_push_of_some _ e, turn_tuple a _, ⟨_, Heap.get?_push_size _ rfl, rfl, rfl⟩, fun b hb => ?_, q⟩
    have e : b = s1.heap.objs.size := by simpa using hb
    subst e
    exact I1.fpOk (Nat.le_refl _) (I1.hok.fresh (Nat.le_refl _))
def dWSeq (t : TF) : TW := fun sd => (t sd).bind fun p => match p.1 with
  | .lst ds => some (ds, p.2)
  | .tup ds => some (ds, p.2)
  | .kl ds => some (ds, p.2)
  | _ => none
theorem di_seq {e : Expr} {t : TF} (h : DF X e t) : DI X tg e (dWSeq t) :=
  PIi (pi_seq h) fun σ H R ⟨G, T, sd, xs, sd', S, e1, k⟩ => by
    obtain ⟨p, hp, e1⟩ := bindS e1
    refine ⟨G, T, sd, p.1, p.2, S, hp, fun v G1 H1 s1 S1 r1 => ?_⟩
    split at e1
    · rename_i ds hd
      cases e1
      rw [hd] at r1
      obtain ⟨a, vs, rfl, q, rl⟩ := r1.l
      exact ⟨a, rfl, .inl ⟨⟨vs, SqL.of (S1.same _ _ q)⟩, k _ G1 H1 s1 S1 (wlk_list (SqL.of q) rl)⟩⟩
    · rename_i ds hd
      cases e1
      rw [hd] at r1
      obtain ⟨a, vs, rfl, q, rl⟩ := r1.t
      exact ⟨a, rfl, .inr ⟨⟨vs, SqT.mono q S1.same⟩, k _ G1 H1 s1 S1 (wlk_tup q rl)⟩⟩
    · rename_i ds hd
      cases e1
      rw [hd] at r1
      obtain ⟨a, vs, rfl, q, rl⟩ := r1.k
      exact ⟨a, rfl, .inl ⟨⟨vs, SqL.mono q S1.same⟩, k _ G1 H1 s1 S1 (wlk_list q rl)⟩⟩
    · cases e1
/-! ### range -/
def dWR1 (t : TF) : TW := fun sd => (t sd).bind fun p => match p.1 with
  | .int j => if -(2 ^ 62) ≤ j ∧ j < 2 ^ 62 then some (rngD 0 j.toNat, p.2) else none
  | _ => none
theorem di_range1 {a : Expr} {t : TF} {p pos : Pos} (hg : Gl X "range") (hm : X.mg "range" = none) (ha : DF X a t) (hs : starEach [a] X.env = [(false, eval a X.env)] := by rfl) (hs2 : starEach [a] X.env = (false, eval a X.env) :: starEach [] X.env := by rfl) : DI X tg (.Call (.Name "range" p) [a] [] pos) (dWR1 t) :=
  PIi (pi_range1 hg hm (pa_cons ha pa_nil hs2) hs) fun σ H R ⟨G, T, sd, xs, sd', S, e1, k⟩ => by
    obtain ⟨p, hp, e1⟩ := bindS e1
    refine ⟨G, T, sd, p.1, p.2, S, hp, fun v G1 H1 s1 S1 r1 => ?_⟩
    split at e1
    · rename_i j hd
      obtain ⟨⟨h1, h2⟩, e2⟩ := ite_some e1
      cases e2
      rw [hd] at r1
      exact ⟨j, by rw [r1.i], h1, h2, k _ G1 H1 s1 S1 wlk_range⟩
    · cases e1
def dWR2 (t u : TF) : TW := fun sd => (t sd).bind fun p => (u p.2).bind fun q => match p.1, q.1 with
  | .int i, .int j => if -(2 ^ 62) ≤ i ∧ i < 2 ^ 62 ∧ -(2 ^ 62) ≤ j ∧ j < 2 ^ 62 then some (rngD i (j - i).toNat, q.2) else none
  | _, _ => none
theorem di_range2 {a b : Expr} {t u : TF} {p pos : Pos} (hg : Gl X "range") (hm : X.mg "range" = none) (ha : DF X a t) (hb : DF X b u) (hs : starEach [a, b] X.env = [(false, eval a X.env), (false, eval b X.env)] := by rfl) (hs2 : starEach [b] X.env = [(false, eval b X.env)] := by rfl)
    (h1 : starEach [a, b] X.env = (false, eval a X.env) :: starEach [b] X.env := by rfl) (h2 : starEach [b] X.env = (false, eval b X.env) :: starEach [] X.env := by rfl) : DI X tg (.Call (.Name "range" p) [a, b] [] pos) (dWR2 t u) :=
  PIi (pi_range2 hg hm (pa_cons ha (pa_cons hb pa_nil h2) h1) hs hs2) fun σ H R ⟨G, T, sd, xs, sd', S, e1, k⟩ => by
    obtain ⟨p, hp, e1⟩ := bindS e1
    obtain ⟨q, hq, e1⟩ := bindS e1
    refine ⟨G, T, sd, p.1, p.2, S, hp, fun v G1 H1 s1 S1 r1 => ⟨G1, T, p.2, q.1, q.2, S1, hq, fun w G2 H2 s2 S2 r2 => ?_⟩⟩
    split at e1
    · rename_i i j hi hj
      obtain ⟨⟨h1, h2, h3, h4⟩, e2⟩ := ite_some e1
      cases e2
      rw [hi] at r1
      rw [hj] at r2
      exact ⟨i, j, by rw [r1.i, r2.i], ⟨h1, h2, h3, h4⟩, k _ G2 H2 (Same.tr s1 s2) S2 wlk_range⟩
    · cases e1
end
/-! ### enumerate -/
def IteT (K : PySem.W.Frag) (a : Addr) : It :=
  ⟨fun i H => ∃ (xs : List V) (x : V), SqT K H a xs ∧ xs[i]? = some x, fun i H v H' => ∃ T x, v = .ref T ∧ H T = none ∧ H' = upd H T (.tup [.int (i : Nat), x]) ∧ ∀ xs, SqT K H a xs → xs[i]? = some x, fun i H => ∃ xs : List V, SqT K H a xs ∧ xs.length ≤ i⟩
theorem turn_enumT {P : Program} {w : World} {K : PySem.W.Frag} {elts : List Expr} {kk : Nat} {tpos : Pos} (a e it : Addr) (hai : a ≠ it) :
    Turn P w K (.Tuple elts kk tpos) (IteT K a) [e, it] e (fun i h => (∃ old, IsEnum h e it ((i : Nat) : Int) old) ∧ h.IsTupleIter it a i ∧ e ≠ it ∧ e ≠ a) where
  mem := by simp
  obj := fun i h st b hb => by
    obtain ⟨⟨old, he⟩, ⟨o, ho, hc, hd⟩, _⟩ := st
    have e' : b = e ∨ b = it := by simpa using hb
    rcases e' with z | z
    · rw [z]; exact ⟨_, he, fun v q => nomatch q⟩
    · rw [z]; exact ⟨o, ho, fun v q => by rw [hd] at q; cases q⟩
  keep := fun i h h' st k => let ⟨⟨old, he⟩, hi, hne, hea⟩ := st; ⟨⟨old, k e (by simp) _ he⟩, hi.at fun o q => k it (by simp) o q, hne, hea⟩
  item := by
    intro X hP hw hK hc i pins s σ H E I hf st hg
    subst hP hw hK
    obtain ⟨⟨old, he⟩, hit, hne, hea⟩ := st
    obtain ⟨xs, x, hq, hx⟩ := hg
    obtain ⟨its, rv, p, hz⟩ := I.tuple hq
    obtain ⟨u, hu, ru⟩ := rv.get hx
    have hel : e < s.heap.objs.size := Heap.lt_size he
    have hil : it < s.heap.objs.size := by obtain ⟨_, q, _⟩ := hit; exact Heap.lt_size q
    have hh : X.A.in1.handled = none := I.ok.hd hc
    have hlt : i < its.toArray.size := by
      rw [List.size_toArray, ← rv.length]; exact (List.getElem?_eq_some_iff.mp hx).1
    refine wpAny_pyNext_enum_itemC (Draws.tuple hh it a hai its.toArray) he ⟨hit, p⟩ hlt hne (by simp [hne, hea]) fun x' h' tk hP ho hs' hT hsz hk => ?_
    have ex : x' = u := by
      have hP' : its.toArray[i]? = some x' := hP
      rw [List.getElem?_toArray] at hP'
      rw [hu] at hP'; cases hP'; rfl
    subst ex
    refine ⟨_, rfl, wpAny_letOwnedTupleGo_enum (s := { s with heap := h', toks := tk + 1 }) ho fun h'' he' sb => ?_⟩
    have hT2 : h''.get? s.heap.objs.size = some { cls := .type "tuple", data := .seq #[.int i tk, x'] } := (sb.2 _ (Nat.ne_of_gt hel)).trans hT
    have new : ObjOk X.prog X.w (upd H s.heap.objs.size (.tup [.int (i : Nat), x])) h'' s.heap.objs.size (.tup [.int (i : Nat), x]) :=
      ⟨by show 2 ≤ sizeLine; decide, [.int i tk, x'], .cons ⟨_, rfl⟩ (.cons ru .nil), ⟨_, hT2, rfl, _, rfl⟩⟩
    have I1 : Inv X pins σ (upd H s.heap.objs.size (.tup [.int (i : Nat), x])) { s with heap := h'', toks := tk + 1 } :=
      I.turnedNew (ch := [e, it]) (fun b ob hb q => (sb.2 b (fun z => hb (by simp [z]))).trans (hk b ob (fun z => hb (by simp [z])) (fun z => hb (by simp [z])) q)) hf (Nat.le_refl _) new
    refine ⟨.ref s.heap.objs.size, _, I1, rfl, ⟨_, x, rfl, I.hok.fresh (Nat.le_refl _), rfl, fun ys hy => by rw [I.tuple_inj hy hq]; exact hx⟩, ⟨⟨x', ?_⟩, hs'.1.at fun o q => (sb.2 it (Ne.symm hne)).trans q, hne, hea⟩, fun b hb => ?_⟩
    · have e1 : ((i + 1 : Nat) : Int) = (i : Int) + 1 := by omega
      rw [e1]; exact he'
    · have hb' : b < s.heap.objs.size := by
        have e' : b = e ∨ b = it := by simpa using hb
        rcases e' with z | z
        · rw [z]; exact hel
        · rw [z]; exact hil
      rw [upd_ne (Nat.ne_of_lt hb')]
      exact (hf b hb).1
  done := by
    intro X hP hw hK hc i pins s σ H E I hf st hg
    subst hP hw hK
    obtain ⟨⟨old, he⟩, hit, hne, hea⟩ := st
    obtain ⟨xs, hq, hx⟩ := hg
    obtain ⟨its, rv, p, hz⟩ := I.tuple hq
    obtain ⟨f0, f1, f2, f3, f4, f5⟩ := hf it (by simp)
    have hl := rv.length
    have hh : X.A.in1.handled = none := I.ok.hd hc
    have D : Draws X.prog X.w X.A.in1 it [it, a] 0 (fun _ _ => True) (fun j h => h.IsTupleIter it a i ∧ h.IsTuple a its.toArray) :=
      { live := fun _ _ st => let ⟨o, ho, _⟩ := st.1; ⟨o, ho⟩
        frame := fun _ _ _ st hk => ⟨st.1.at fun o e => hk it (by simp) o e, st.2.at fun o e => hk a (by simp) o e⟩
        item := fun j s Q E hi st hQ => absurd hi (Nat.not_lt_zero _)
        done := fun s Q E st hE => wpAny_nextOf_tuple_end hh st.1 st.2 (by simp; omega) hE }
    exact wpAny_pyNext_enum_endD D he ⟨hit, p⟩ fun h' eb => ⟨rfl, I.turned (t' := s.toks) (fun b o hb q => eb b o hb q) f0 f1 f3 f4 f5⟩
  self := fun A i s Q E st h => let ⟨⟨_, he⟩, _⟩ := st; wpAny_pyIter_enum he h
set_option maxHeartbeats 1000000 in
theorem meets_enumerate_new1 {v : Value} {o : Obj} {H : Heap → Prop} (B : Begins v o H) :
    Meets (Builtin.«enumerate.__new__» ⟨[.type "enumerate", v], []⟩) (fun _ R s => H s.heap ∧
      R (.ok (.ret (.ref (s.heap.push o).objs.size))) { s with heap := (s.heap.push o).push { cls := .type "enumerate", data := .fields #[.none, .bool false, .ref s.heap.objs.size, rawInt 0, .none, .none] } }) :=
  .of_wp fun prog w A R s h => by
    obtain ⟨hp, g, d, tk, os⟩ := s; obtain ⟨h1, h⟩ := h
    have hsub := sub_enumerate
    have q1 : ∀ {A' : Around} {E : Value → Shared → Prop} {Q : Value → Shared → Prop}, Q (.ref hp.objs.size) ⟨hp.push o, g, d, tk, os⟩ → wpAny (model prog w) A' (pyIter v) Q E ⟨hp, g, d, tk, os⟩ :=
      fun q => B.iter prog w _ _ ⟨hp, g, d, tk, os⟩ _ h1 q
    wp_walk using q1
    refine wpAny_stack_any fun st => wpAny_pure ?_
    split
    · rename_i c _ _ _ _ _
      cases (c == Value.type "enumerate")
      · wp_walk using q1
        exact ⟨_, rfl, h⟩
      · wp_walk using q1
        exact ⟨_, rfl, h⟩
    · wp_walk using q1
      exact ⟨_, rfl, h⟩
theorem ds_typeCall_enumerate_1 (a : Value) : checkTypeCall "enumerate" ⟨[a], []⟩ = pure () := by kernel_rfl
theorem ds_newCall_enumerate_1 (a : Value) : checkBuiltinCall "enumerate.__new__" ⟨[.type "enumerate", a], []⟩ = pure () := by kernel_rfl
end DS
end

section
set_option Elab.async false
set_option linter.all false
set_option maxRecDepth 100000
set_option maxHeartbeats 1000000
namespace DS
open PySem PySem.Spec PyProof.Rows L2
section
variable {prog : Program} {w : World} {A : Around} {E : Value → Shared → Prop} {s : Shared}
theorem enum_begins1 {v : Value} {o : Obj} {H : Heap → Prop} {Q : Value → Shared → Prop} (B : Begins v o H) (h1 : H s.heap)
    (h : ∀ h', IsEnum h' (s.heap.objs.size + 1) s.heap.objs.size 0 .none → h'.get? s.heap.objs.size = some o → h'.objs.size = s.heap.objs.size + 2 →
      (∀ b o, s.heap.get? b = some o → h'.get? b = some o) → Q (.ref (s.heap.objs.size + 1)) { s with heap := h' }) :
    wpAny (model prog w) A (call (.type "enumerate") [v]) Q E s := by
  refine callType_new F.called_enumerate (by decide) (ds_typeCall_enumerate_1 _) (ds_newCall_enumerate_1 _) (fun obj => F.args_object_init_2 obj _) F.entry_enumerate_new
    (meets_enumerate_new1 B) ⟨h1, ?_⟩
  have hz : (s.heap.push o).objs.size = s.heap.objs.size + 1 := Heap.size_push ..
  show _ ∧ _
  rw [hz]
  have he : IsEnum ((s.heap.push o).push { cls := .type "enumerate", data := .fields #[.none, .bool false, .ref s.heap.objs.size, rawInt 0, .none, .none] }) (s.heap.objs.size + 1) s.heap.objs.size 0 .none := by
    have := Heap.get?_push_size (s.heap.push o) (o := { cls := .type "enumerate", data := .fields #[.none, .bool false, .ref s.heap.objs.size, rawInt 0, .none, .none] }) rfl
    rw [hz] at this; exact this
  refine ⟨⟨_, he, rfl⟩, h _ he (Heap.get?_push_of_some _ (Heap.get?_push_size _ B.free)) (by rw [Heap.size_push, hz]) fun b o x => Heap.get?_push_of_some _ (Heap.get?_push_of_some _ x)⟩
end
section
variable {X : Cx} {tg : Expr} {fx : List Nat}
def iEnumA (K : PySem.W.Frag) (ta : TA) : TI := fun σ H R => ta σ H fun vs H1 => ∃ a xs, vs = [.ref a] ∧ ((SqL K H1 a xs ∧ R (Ite K a) H1) ∨ (SqT K H1 a xs ∧ R (IteT K a) H1))
theorem pi_enumA {e : Expr} {ta : TA} {p pos tpos : Pos} {elts : List Expr} {kk : Nat} (hg : Gl X "enumerate") (hm : X.mg "enumerate" = none) (ha : PA X [e] ta) (hs : starEach [e] X.env = [(false, eval e X.env)] := by rfl) :
    PI X (.Tuple elts kk tpos) (.Call (.Name "enumerate" p) [e] [] pos) (iEnumA X.K ta) := by
  refine ⟨fun pins s σ H R I h => ?_⟩
  refine Call_ (ld_blt I hg hm boot_enumerate (PyProof.Rows.callWith_type1 (thn (ha.run pos pins s σ H _ I h) fun us s1 ⟨vs, H1, I1, r1, q1⟩ => ?_) hs rfl))
  obtain ⟨a, xs, ex, q1⟩ := q1
  subst ex
  cases r1 with
  | cons r rr =>
    cases rr
    cases r
    have fr : ∀ b ∈ [s1.heap.objs.size + 1, s1.heap.objs.size], FpOk X pins H1 b := fun b hb => by
      have e' : b = s1.heap.objs.size + 1 ∨ b = s1.heap.objs.size := by simpa using hb
      have hle : s1.heap.objs.size ≤ b := by
        rcases e' with z | z
        · rw [z]; exact Nat.le_add_right _ _
        · rw [z]; exact Nat.le_refl _
      exact I1.fpOk hle (I1.hok.fresh hle)
    rcases q1 with ⟨hq, q⟩ | ⟨hq, q⟩
    · obtain ⟨its, rv, p', hz⟩ := I1.list hq
      refine call_enumerate_list p'.isList fun h' he hit hsz hk => wpAny_pyIter_enum he ?_
      have I2 : Inv X pins σ H1 { s1 with heap := h' } := I1.kept (t' := s1.toks) hk
      exact ⟨s1.heap.objs.size + 1, [s1.heap.objs.size + 1, s1.heap.objs.size], _, _, H1, rfl, I2, turn_enum a (s1.heap.objs.size + 1) s1.heap.objs.size, ⟨⟨.none, he⟩, hit, Nat.succ_ne_self _⟩, fr, q⟩
    · obtain ⟨its, rv, p', hz⟩ := I1.tuple hq
      have hal : a < s1.heap.objs.size := by obtain ⟨o, ho, _⟩ := id p'; exact Heap.lt_size ho
      refine enum_begins1 (begins_tuple a its.toArray) p' fun h' he hit hsz hk => wpAny_pyIter_enum he ?_
      have I2 : Inv X pins σ H1 { s1 with heap := h' } := I1.kept (t' := s1.toks) hk
      exact ⟨s1.heap.objs.size + 1, [s1.heap.objs.size + 1, s1.heap.objs.size], _, _, H1, rfl, I2, turn_enumT a (s1.heap.objs.size + 1) s1.heap.objs.size (Nat.ne_of_lt hal), ⟨⟨.none, he⟩, ⟨_, hit, rfl, rfl⟩, Nat.succ_ne_self _, Nat.ne_of_gt (Nat.lt_succ_of_lt hal)⟩, fr, q⟩
def enumL (i : Nat) : List D → List D
  | [] => []
  | x :: xs => .tup [.int (i : Nat), x] :: enumL (i + 1) xs
theorem enumL_at : ∀ {xs : List D} {k i : Nat} {d : D}, (enumL k xs)[i]? = some d → ∃ x, xs[i]? = some x ∧ d = .tup [.int ((k + i : Nat) : Int), x]
  | [], k, i, d, h => by simp [enumL] at h
  | x :: xs, k, 0, d, h => by
    simp only [enumL, List.getElem?_cons_zero, Option.some.injEq] at h
    exact ⟨x, rfl, by rw [← h]; rfl⟩
  | x :: xs, k, i + 1, d, h => by
    obtain ⟨y, h1, h2⟩ := enumL_at (xs := xs) (k := k + 1) (i := i) (by simpa [enumL] using h)
    exact ⟨y, by simpa using h1, by rw [h2]; congr 3; omega⟩
theorem enumL_len : ∀ {xs : List D} {k : Nat}, (enumL k xs).length = xs.length
  | [], _ => rfl
  | x :: xs, k => by simp [enumL, enumL_len]
theorem RepL.two {c : RC} {G : Hp} {d e : D} {v u : V} (h : Rep c G d v) (k : Rep c G e u) : RepL c G [d, e] [v, u] := RepL.cons h (RepL.one k)
theorem wlk_enum {c : RC} {G : Hp} {a : Addr} {vs : List V} {ds : List D} (q : SqL c.K G a vs) (r : RepL c G ds vs) : Wlk c (Ite c.K a) G (enumL 0 ds) := fun i G1 H s1 s2 => by
  have q2 : SqL c.K H a vs := SqL.mono (SqL.mono q s1) s2
  refine ⟨fun x hx => ?_, fun hi => ⟨vs, q2, by rw [r.length]; rw [enumL_len] at hi; exact hi⟩⟩
  obtain ⟨y, hy, rfl⟩ := enumL_at hx
  obtain ⟨v, hv, rv⟩ := r.get hy
  refine ⟨⟨vs, v, q2, hv⟩, fun w H' ⟨T, u, e1, hT, e2, yy⟩ => ?_⟩
  subst e1 e2
  have := yy vs q2
  rw [hv] at this; cases this
  have gn := Same.nn s2 hT
  refine ⟨_, same_upd gn, Grow.new hT, Rep.newT gn (RepL.two ?_ (Rep.mono s1 _ _ rv))⟩
  rw [Nat.zero_add]; exact Rep.int ..
theorem wlk_enumT {c : RC} {G : Hp} {a : Addr} {vs : List V} {ds : List D} (q : SqT c.K G a vs) (r : RepL c G ds vs) : Wlk c (IteT c.K a) G (enumL 0 ds) := fun i G1 H s1 s2 => by
  have q2 : SqT c.K H a vs := SqT.mono (SqT.mono q s1) s2
  refine ⟨fun x hx => ?_, fun hi => ⟨vs, q2, by rw [r.length]; rw [enumL_len] at hi; exact hi⟩⟩
  obtain ⟨y, hy, rfl⟩ := enumL_at hx
  obtain ⟨v, hv, rv⟩ := r.get hy
  refine ⟨⟨vs, v, q2, hv⟩, fun w H' ⟨T, u, e1, hT, e2, yy⟩ => ?_⟩
  subst e1 e2
  have := yy vs q2
  rw [hv] at this; cases this
  have gn := Same.nn s2 hT
  refine ⟨_, same_upd gn, Grow.new hT, Rep.newT gn (RepL.two ?_ (Rep.mono s1 _ _ rv))⟩
  rw [Nat.zero_add]; exact Rep.int ..
def dWEn (t : TF) : TW := fun sd => (t sd).bind fun p => match p.1 with
  | .lst ds => some (enumL 0 ds, p.2)
  | .tup ds => some (enumL 0 ds, p.2)
  | _ => none
theorem di_enum {e : Expr} {t : TF} {p pos tpos : Pos} {elts : List Expr} {kk : Nat} (hg : Gl X "enumerate") (hm : X.mg "enumerate" = none) (h : DF X e t) (hs : starEach [e] X.env = [(false, eval e X.env)] := by rfl) (hs2 : starEach [e] X.env = (false, eval e X.env) :: starEach [] X.env := by rfl) :
    DI X (.Tuple elts kk tpos) (.Call (.Name "enumerate" p) [e] [] pos) (dWEn t) :=
  PIi (pi_enumA hg hm (pa_cons h pa_nil hs2) hs) fun σ H R ⟨G, T, sd, xs, sd', S, e1, k⟩ => by
    obtain ⟨p, hp, e1⟩ := bindS e1
    refine ⟨G, T, sd, p.1, p.2, S, hp, fun v G1 H1 s1 S1 r1 => ?_⟩
    split at e1
    · rename_i ds hd
      cases e1
      rw [hd] at r1
      obtain ⟨a, vs, rfl, q, rl⟩ := r1.l
      exact ⟨a, vs, rfl, .inl ⟨SqL.of (S1.same _ _ q), k _ G1 H1 s1 S1 (wlk_enum (SqL.of q) rl)⟩⟩
    · rename_i ds hd
      cases e1
      rw [hd] at r1
      obtain ⟨a, vs, rfl, q, rl⟩ := r1.t
      exact ⟨a, vs, rfl, .inr ⟨SqT.mono q S1.same, k _ G1 H1 s1 S1 (wlk_enumT q rl)⟩⟩
    · cases e1
/-! ### zip of two lists or two tuples -/
def zipL : List D → List D → List D
  | x :: xs, y :: ys => .tup [x, y] :: zipL xs ys
  | _, _ => []
theorem zipL_at : ∀ {xs ys : List D} {i : Nat} {d : D}, (zipL xs ys)[i]? = some d → ∃ x y, xs[i]? = some x ∧ ys[i]? = some y ∧ d = .tup [x, y]
  | [], ys, i, d, h => by simp [zipL] at h
  | x :: xs, [], i, d, h => by simp [zipL] at h
  | x :: xs, y :: ys, 0, d, h => by
    simp only [zipL, List.getElem?_cons_zero, Option.some.injEq] at h
    exact ⟨x, y, rfl, rfl, h.symm⟩
  | x :: xs, y :: ys, i + 1, d, h => by
    obtain ⟨a, b, h1, h2, h3⟩ := zipL_at (xs := xs) (ys := ys) (i := i) (by simpa [zipL] using h)
    exact ⟨a, b, by simpa using h1, by simpa using h2, h3⟩
theorem zipL_len : ∀ {xs ys : List D}, (zipL xs ys).length = min xs.length ys.length
  | [], ys => by simp [zipL]
  | x :: xs, [] => by simp [zipL]
  | x :: xs, y :: ys => by simp [zipL, zipL_len (xs := xs) (ys := ys), Nat.succ_min_succ]
theorem wlk_zip {c : RC} {G : Hp} {a b : Addr} {vs us : List V} {ds es : List D} (q : SqL c.K G a vs) (r : RepL c G ds vs) (q' : SqL c.K G b us) (r' : RepL c G es us) : Wlk c (Itz c.K a b) G (zipL ds es) := fun i G1 H s1 s2 => by
  have q2 : SqL c.K H a vs := SqL.mono (SqL.mono q s1) s2
  have q3 : SqL c.K H b us := SqL.mono (SqL.mono q' s1) s2
  refine ⟨fun x hx => ?_, fun hi => ⟨vs, us, q2, q3, by rw [r.length, r'.length]; rw [zipL_len] at hi; omega⟩⟩
  obtain ⟨y, z, hy, hz, rfl⟩ := zipL_at hx
  obtain ⟨v, hv, rv⟩ := r.get hy
  obtain ⟨u, hu, ru⟩ := r'.get hz
  refine ⟨⟨vs, us, v, u, q2, q3, hv, hu⟩, fun w H' ⟨T, p1, p2, e1, hT, e2, y1, y2⟩ => ?_⟩
  subst e1 e2
  have h1 := y1 vs q2
  have h2 := y2 us q3
  rw [hv] at h1; cases h1
  rw [hu] at h2; cases h2
  have gn := Same.nn s2 hT
  exact ⟨_, same_upd gn, Grow.new hT, Rep.newT gn (RepL.two (Rep.mono s1 _ _ rv) (Rep.mono s1 _ _ ru))⟩
theorem wlk_zipT {c : RC} {G : Hp} {a b : Addr} {vs us : List V} {ds es : List D} (q : SqT c.K G a vs) (r : RepL c G ds vs) (q' : SqT c.K G b us) (r' : RepL c G es us) : Wlk c (RZ.ItzT c.K a b) G (zipL ds es) := fun i G1 H s1 s2 => by
  have q2 : SqT c.K H a vs := SqT.mono (SqT.mono q s1) s2
  have q3 : SqT c.K H b us := SqT.mono (SqT.mono q' s1) s2
  refine ⟨fun x hx => ?_, fun hi => ⟨vs, us, q2, q3, by rw [r.length, r'.length]; rw [zipL_len] at hi; omega⟩⟩
  obtain ⟨y, z, hy, hz, rfl⟩ := zipL_at hx
  obtain ⟨v, hv, rv⟩ := r.get hy
  obtain ⟨u, hu, ru⟩ := r'.get hz
  refine ⟨⟨vs, us, v, u, q2, q3, hv, hu⟩, fun w H' ⟨T, p1, p2, e1, hT, e2, y1, y2⟩ => ?_⟩
  subst e1 e2
  have h1 := y1 vs q2
  have h2 := y2 us q3
  rw [hv] at h1; cases h1
  rw [hu] at h2; cases h2
  have gn := Same.nn s2 hT
  exact ⟨_, same_upd gn, Grow.new hT, Rep.newT gn (RepL.two (Rep.mono s1 _ _ rv) (Rep.mono s1 _ _ ru))⟩
def dWZp (t u : TF) : TW := fun sd => (t sd).bind fun p => (u p.2).bind fun q => match p.1, q.1 with
  | .lst ds, .lst es => some (zipL ds es, q.2)
  | .tup ds, .tup es => some (zipL ds es, q.2)
  | _, _ => none
theorem di_zip {e e2 : Expr} {t u : TF} {p pos tpos : Pos} {elts : List Expr} {kk : Nat} (hg : Gl X "zip") (hm : X.mg "zip" = none) (h : DF X e t) (h' : DF X e2 u)
    (hs : starEach [e, e2] X.env = (false, eval e X.env) :: starEach [e2] X.env := by rfl) (hs2 : starEach [e2] X.env = (false, eval e2 X.env) :: starEach [] X.env := by rfl) (hpl : (backTo pos (starEach [e2] X.env)).any (·.1) = false := by rfl) :
    DI X (.Tuple elts kk tpos) (.Call (.Name "zip" p) [e, e2] [] pos) (dWZp t u) :=
  PIi (RZ.pi_zipA hg hm (pa_cons h (pa_cons h' pa_nil hs2) hs) hs hpl) fun σ H R ⟨G, T, sd, xs, sd', S, e1, k⟩ => by
    obtain ⟨p, hp, e1⟩ := bindS e1
    obtain ⟨q, hq, e1⟩ := bindS e1
    refine ⟨G, T, sd, p.1, p.2, S, hp, fun v G1 H1 s1 S1 r1 => ⟨G1, T, p.2, q.1, q.2, S1, hq, fun w G2 H2 s2 S2 r2 => ?_⟩⟩
    have r1 := Rep.mono s2 _ _ r1
    split at e1
    · rename_i ds es hd he
      cases e1
      rw [hd] at r1
      rw [he] at r2
      obtain ⟨a, vs, rfl, qa, rl⟩ := r1.l
      obtain ⟨b, us, rfl, qb, rl2⟩ := r2.l
      exact ⟨a, b, vs, us, rfl, .inl ⟨SqL.of (S2.same _ _ qa), SqL.of (S2.same _ _ qb), k _ G2 H2 (Same.tr s1 s2) S2 (wlk_zip (SqL.of qa) rl (SqL.of qb) rl2)⟩⟩
    · rename_i ds es hd he
      cases e1
      rw [hd] at r1
      rw [he] at r2
      obtain ⟨a, vs, rfl, qa, rl⟩ := r1.t
      obtain ⟨b, us, rfl, qb, rl2⟩ := r2.t
      exact ⟨a, b, vs, us, rfl, .inr ⟨SqT.mono qa S2.same, SqT.mono qb S2.same, k _ G2 H2 (Same.tr s1 s2) S2 (wlk_zipT qa rl qb rl2)⟩⟩
    · cases e1
end
end DS
end

section
set_option Elab.async false
set_option linter.all false
set_option maxRecDepth 100000
set_option maxHeartbeats 1000000
namespace DS
open PySem PySem.Spec PyProof.Rows L2
/-! ### d.items() -/
def ItN (P : Program) (w : World) (a : Addr) (es : List Ent) (o : Obj) : It :=
  ⟨fun i H => H a = some (dctO P w a es o) ∧ i < es.length,
   fun i H v H' => ∃ T k b x, es[i]? = some (k, b, x) ∧ v = .ref T ∧ H T = none ∧ H' = upd H T (.tup [.ref b, x]),
   fun i H => H a = some (dctO P w a es o) ∧ es.length ≤ i⟩
theorem dct_raw {P : Program} {w : World} {H : Hp} {s : Shared} {a : Addr} {es : List Ent} {o : Obj} (h : ObjOk P w H s.heap a (dctO P w a es o)) : ∃ ents ep xs, s.heap.DictRaw a ents ep ∧ s.heap.get? a = some o ∧ o.data = .dict ents ep ∧ ents.toList = xs.map (entryOfKey (nestedKind P w)) ∧ Paired EntRel es xs ∧ ents.size = es.length := by
  obtain ⟨⟨ents, ep, xs, ho, hx, hd, he, hp⟩, _, _⟩ := h
  refine ⟨ents, ep, xs, ⟨o, ho, hx, hd⟩, ho, hd, he, hp, ?_⟩
  rw [hp.length, ← Array.length_toList, he, List.length_map]
theorem dct_entry {P : Program} {w : World} {ents : Array DictEntry} {es : List Ent} {xs : List (NestedKey × Addr × Value)} (he : ents.toList = xs.map (entryOfKey (nestedKind P w))) (hp : Paired EntRel es xs) {i : Nat} (hi : i < ents.size) : ∃ k b x u, es[i]? = some (k, b, x) ∧ ents[i].key = .ref b ∧ ents[i].val = u ∧ RelV x u := by
  have hl : ents.size = xs.length := by rw [← Array.length_toList, he, List.length_map]
  have hx : xs[i]? = some (xs[i]'(by omega)) := by simp
  have hes : es[i]? = some (es[i]'(by rw [hp.length]; omega)) := by simp
  obtain ⟨r1, r2, r3⟩ := Paired.at2 hp hes hx
  have e1 : ents[i] = entryOfKey (nestedKind P w) (xs[i]'(by omega)) := by
    have h1 : ents.toList[i]? = some ents[i] := by simp [hi]
    rw [he, List.getElem?_map, hx] at h1
    exact (Option.some.inj h1).symm
  refine ⟨_, _, _, _, hes, ?_, rfl, ?_⟩
  · rw [e1]
    show Value.ref (xs[i]'(by omega)).2.1 = Value.ref (es[i]'(by rw [hp.length]; omega)).2.1
    rw [r2]
  · rw [e1]; exact r3
theorem turn_itemsN {P : Program} {w : World} {K : PySem.W.Frag} {a : Addr} {es : List Ent} {o : Obj} {ents0 : Array DictEntry} {ep : Nat} {elts : List Expr} {kk : Nat} {tpos : Pos} (it : Addr) (hod : o.data = .dict ents0 ep) :
    Turn P w K (.Tuple elts kk tpos) (ItN P w a es o) [it] it (fun i h => ∃ ok ov, IsItemIter h it a i es.length ep ok ov) where
  mem := by simp
  obj := fun i h st b hb => by
    have e : b = it := by simpa using hb
    subst e
    obtain ⟨ok, ov, e⟩ := st
    exact ⟨_, e, fun v z => nomatch z⟩
  keep := fun i h h' st k => let ⟨ok, ov, e⟩ := st; ⟨ok, ov, k it (by simp) _ e⟩
  item := by
    intro X hP hw hK hc i pins s σ H E I hf st hg
    subst hP hw hK
    obtain ⟨hat, hi⟩ := hg
    obtain ⟨ents, ep', xs, hm, ho', hd, he, hp, hsz⟩ := dct_raw (I.hok a _ hat)
    rw [hod] at hd; cases hd
    obtain ⟨ok, ov, hit⟩ := st
    rw [← hsz] at hit hi
    obtain ⟨k, b, x, u, h1, h2, h3, h4⟩ := dct_entry he hp hi
    have hlt : it < s.heap.objs.size := Heap.lt_size hit
    refine wpAny_pyNext_items_item_raw hit hm hi fun h' hot hT hz hk => ?_
    rw [h2, h3] at hT
    refine ⟨_, rfl, wpAny_letOwnedTupleGo_items (s := { s with heap := h' }) hot fun h'' he' sb => ?_⟩
    have hT2 : h''.get? s.heap.objs.size = some { cls := .type "tuple", data := .seq #[.ref b, u] } := (sb.2 _ (Nat.ne_of_gt hlt)).trans hT
    have new : ObjOk X.prog X.w (upd H s.heap.objs.size (.tup [.ref b, x])) h'' s.heap.objs.size (.tup [.ref b, x]) :=
      ⟨by show 2 ≤ sizeLine; decide, [.ref b, u], .cons rfl (.cons h4 .nil), ⟨_, hT2, rfl, _, rfl⟩⟩
    have I1 : Inv X pins σ (upd H s.heap.objs.size (.tup [.ref b, x])) { s with heap := h'' } :=
      I.turnedNew (t' := s.toks) (ch := [it]) (fun b ob hb e => (sb.2 b (by simpa using hb)).trans (hk b ob (by simpa using hb) e)) hf (Nat.le_refl _) new
    refine ⟨.ref s.heap.objs.size, _, I1, rfl, ⟨_, k, b, x, h1, rfl, I.hok.fresh (Nat.le_refl _), rfl⟩, ⟨ents0[i].key, ents0[i].val, ?_⟩, fun c hb => ?_⟩
    · rw [← hsz]; exact he'
    · have e : c = it := by simpa using hb
      rw [e, upd_ne (Nat.ne_of_lt hlt)]
      exact (hf it (by simp)).1
  done := by
    intro X hP hw hK hc i pins s σ H E I hf st hg
    subst hP hw hK
    obtain ⟨hat, hi⟩ := hg
    obtain ⟨f0, f1, f2, f3, f4, f5⟩ := hf it (by simp)
    obtain ⟨ents, ep', xs, hm, ho', hd, he, hp, hsz⟩ := dct_raw (I.hok a _ hat)
    rw [hod] at hd; cases hd
    obtain ⟨ok, ov, hit⟩ := st
    rw [← hsz] at hit hi
    exact wpAny_pyNext_items_end_raw (I.ok.hd hc) hit hm hi fun h' eb => ⟨rfl, I.turned (t' := s.toks) (fun b o hb e => eb b o hb e) f0 f1 f3 f4 f5⟩
  self := fun A i s Q E st h => let ⟨_, _, e⟩ := st; PySem.W.kcp_self e h
section
variable {X : Cx} {tg e : Expr} {td : TE} {apos cpos : Pos} {fx : List Nat}
def iItN (X : Cx) (td : TE) : TI := fun σ H R => td σ H fun x H1 => ∃ a es o, x = .ref a ∧ (a == sysModules) = false ∧ H1 a = some (dctO X.prog X.w a es o) ∧ R (ItN X.prog X.w a es o) H1
theorem pi_itemsN {elts : List Expr} {kk : Nat} {tpos : Pos} (he : PE X e td) (hbase : attributeBase e "items" X.env (eval e X.env) = eval e X.env := by rfl) (hline : (apos.endLine == cpos.line) = true := by rfl) :
    PI X (.Tuple elts kk tpos) (.Call (.Attribute e "items" apos) [] [] cpos) (iItN X td) := by
  refine ⟨fun pins s σ H R I h => ?_⟩
  refine wpAny_Call_method (T := "dict") (id := "dict.items") hbase rfl hline F.plainAttrs_dict F.slot_dict_items F.type_dict_items (thn (he.run pins s σ H _ I h) fun u s1 ⟨x, H1, I1, rx, d, es, o, ex, hs, hd, q⟩ => ?_)
  subst ex
  obtain rfl : u = Value.ref d := rx
  obtain ⟨ents, ep, xs, hm, ho', hdat, hen, hp, hsz⟩ := dct_raw (I1.hok d _ hd)
  refine ⟨hm.typeIs, fun b eb => ?_, ?_⟩
  · cases eb
    obtain ⟨o2, ho2, hx2, _⟩ := id hm
    exact ⟨o2, ho2, hx2.2.1⟩
  have I2 : Inv X pins σ H1 { s1 with heap := s1.heap.push { cls := .type "dict_items", data := .fields #[.ref d] } } := I1.kept (t' := s1.toks) fun b ob q => Heap.get?_push_of_some _ q
  have fin : wpAny (model X.prog X.w) X.A (pyIter (.ref s1.heap.objs.size)) (PIE X pins σ (.Tuple elts kk tpos) R) X.xe { s1 with heap := s1.heap.push { cls := .type "dict_items", data := .fields #[.ref d] } } := by
    refine wpAny_pyIter_items_raw (d := d) (es := ents) (ep := ep) ⟨_, Heap.get?_push_size _ rfl, rfl, rfl⟩ (hm.at fun o e => Heap.get?_push_of_some _ e) (pi_one (tk := s1.toks) I2 _ (turn_itemsN _ hdat) ⟨.none, .none, ?_⟩ q)
    rw [← hsz]
    exact Heap.get?_push_size _ rfl
  show wpAny _ _ (callWith cpos (.builtin "dict.items") [.ref d] [] []) _ X.xe s1
  exact method_meetsIn F.slot_dict_items F.entry_dict_items rfl (PySem.evalArgs_none ⟨rfl, hm.typeIs, F.args_dict_items_1 _, _, meets_dict_items_raw d hs, ⟨ents, ep, hm⟩, fin⟩)
theorem RepI.at {c : RC} {H : Hp} : ∀ {its : List D} {es : List Ent}, RepI c H its es → ∀ {i : Nat} {d : D}, its[i]? = some d → ∃ kd vd k b x, d = .tup [kd, vd] ∧ es[i]? = some (k, b, x) ∧ Rep c H kd (.ref b) ∧ Rep c H vd x
  | [], es, h, i, d, e => by simp at e
  | d0 :: its, es, h, i, d, e => by
    obtain ⟨kd, vd, k, b, x, r', rfl, rfl, h1, h2, h3, h4, h5⟩ := h.uncons
    cases i with
    | zero =>
      simp only [List.getElem?_cons_zero, Option.some.injEq] at e
      exact ⟨kd, vd, k, b, x, e.symm, rfl, h3, h4⟩
    | succ i =>
      obtain ⟨a1, a2, a3, a4, a5, b1, b2, b3⟩ := RepI.at h5 (i := i) (d := d) (by simpa using e)
      exact ⟨a1, a2, a3, a4, a5, b1, by simpa using b2, b3⟩
theorem wlk_items {G : Hp} {a : Addr} {es : List Ent} {its : List D} {o : Obj} (q : G a = some (dctO X.prog X.w a es o)) (r : RepI (rc X) G its es) : Wlk (rc X) (ItN X.prog X.w a es o) G its := fun i G1 H s1 s2 => by
  have q2 : H a = some (dctO X.prog X.w a es o) := s2 _ _ (s1 _ _ q)
  refine ⟨fun x hx => ?_, fun hi => ⟨q2, by rw [r.length]; exact hi⟩⟩
  obtain ⟨kd, vd, k, b, v, rfl, h1, h2, h3⟩ := r.at hx
  refine ⟨⟨q2, (List.getElem?_eq_some_iff.mp h1).1⟩, fun w H' ⟨T, k', b', v', e1, e2, hT, e3⟩ => ?_⟩
  rw [h1] at e1; cases e1
  subst e2 e3
  have gn := Same.nn s2 hT
  exact ⟨_, same_upd gn, Grow.new hT, Rep.newT gn (RepL.two (Rep.mono s1 _ _ h2) (Rep.mono s1 _ _ h3))⟩
def dWIt (t : TF) : TW := fun sd => (t sd).bind fun p => match p.1 with
  | .dct its => some (its, p.2)
  | _ => none
theorem di_items {t : TF} {elts : List Expr} {kk : Nat} {tpos : Pos} (he : DF X e t) (hbase : attributeBase e "items" X.env (eval e X.env) = eval e X.env := by rfl) (hline : (apos.endLine == cpos.line) = true := by rfl) :
    DI X (.Tuple elts kk tpos) (.Call (.Attribute e "items" apos) [] [] cpos) (dWIt t) :=
  PIi (pi_itemsN he hbase hline) fun σ H R ⟨G, T, sd, xs, sd', S, e1, k⟩ => by
    obtain ⟨p, hp, e1⟩ := bindS e1
    refine ⟨G, T, sd, p.1, p.2, S, hp, fun v G1 H1 s1 S1 r1 => ?_⟩
    split at e1
    · rename_i its hd
      cases e1
      rw [hd] at r1
      simp only [Rep] at r1
      obtain ⟨a, es, rfl, da, ri⟩ := r1
      obtain ⟨o, hat⟩ := da.at_
      exact ⟨a, es, o, rfl, da.sys, S1.same _ _ hat, k _ G1 H1 s1 S1 (wlk_items hat ri)⟩
    · cases e1
end
end DS
end

section
set_option Elab.async false
set_option linter.all false
set_option maxRecDepth 100000
set_option maxHeartbeats 1000000
namespace DS
open PySem PySem.Spec PyProof.Rows L2
section
variable {c : RC} {G T H : Hp} {sd : DEnv} {σ : L2.St}
/-- another frame of the same things -/
theorem StOk.frame (S : StOk c G T sd σ H) {σ' : L2.St} (hl : σ'.length = σ.length) (h : ∀ (i : Nat) (dv : DV), sd[i]? = some (some dv) → σ'[i]? = σ[i]?) : StOk c G T sd σ' H where
  same := S.same
  sameT := S.sameT
  apart := S.apart
  len := by rw [S.len, hl]
  slots := fun i dv e => by rw [h i dv e]; exact S.slots i dv e
  inj := fun i j d e v h1 h2 h3 h4 => by
    rw [h i _ h1] at h3
    rw [h j _ h2] at h4
    exact S.inj i j d e v h1 h2 h3 h4
/-- an object that is nobody's is changed -/
theorem StOk.write_free (S : StOk c G T sd σ H) {p : Addr} {o : HO} (hG : G p = none) (hT : T p = none) (f : Fresh sd σ (.ref p)) : StOk c G T sd σ (upd H p o) where
  same := fun a u e => by rw [upd_ne (ne_of_none e hG)]; exact S.same a u e
  sameT := fun a u e => by rw [upd_ne (ne_of_none e hT)]; exact S.sameT a u e
  apart := S.apart
  len := S.len
  slots := fun i dv e => by
    obtain ⟨v, e1, r⟩ := S.slots i dv e
    refine ⟨v, e1, ?_⟩
    cases dv with
    | fz d => exact r
    | ow d =>
      obtain ⟨q, rfl, a1, a2, a3⟩ := r
      exact ⟨q, rfl, a1, a2, a3.mono Same.refl (upd_ne (fun z => f i d e (by rw [e1, z])))⟩
  inj := S.inj
/-- a guarded address is no slot's own -/
theorem StOk.fresh_T (S : StOk c G T sd σ H) {p : Addr} {o : HO} (h : T p = some o) : Fresh sd σ (.ref p) := fun i d e e1 => by
  obtain ⟨v, e2, r⟩ := S.slots i _ e
  rw [e1] at e2; cases e2
  obtain ⟨q, e3, _, b2, _⟩ := r
  cases e3
  rw [h] at b2; cases b2
def wipeD (sd : DEnv) : List Nat → DEnv
  | [] => sd
  | v :: vs => (wipeD sd vs).set v none
theorem wipeD_some {sd : DEnv} {i : Nat} {x : DV} : ∀ {vs : List Nat}, (wipeD sd vs)[i]? = some (some x) → sd[i]? = some (some x) ∧ i ∉ vs
  | [], h => ⟨h, by simp⟩
  | v :: vs, h => by
    unfold wipeD at h
    rw [List.getElem?_set] at h
    split at h
    · split at h <;> cases h
    · rename_i hv
      obtain ⟨h1, h2⟩ := wipeD_some h
      exact ⟨h1, by simp [h2]; exact fun e => hv e.symm⟩
theorem wipeD_len {sd : DEnv} : ∀ {vs : List Nat}, (wipeD sd vs).length = sd.length
  | [] => rfl
  | v :: vs => by unfold wipeD; rw [List.length_set, wipeD_len]
/-- the slots vs are forgotten in the data: the frame may be told with or without them -/
theorem StOk.wiped (S : StOk c G T sd σ H) {σ' : L2.St} {vs : List Nat} (hl : σ'.length = σ.length) (h : ∀ i, i ∉ vs → σ'[i]? = σ[i]?) : StOk c G T (wipeD sd vs) σ' H where
  same := S.same
  sameT := S.sameT
  apart := S.apart
  len := by rw [wipeD_len, S.len, hl]
  slots := fun i dv e => by
    obtain ⟨e1, hi⟩ := wipeD_some e
    rw [h i hi]
    exact S.slots i dv e1
  inj := fun i j d e v h1 h2 h3 h4 => by
    obtain ⟨e1, hi⟩ := wipeD_some h1
    obtain ⟨e2, hj⟩ := wipeD_some h2
    rw [h i hi] at h3
    rw [h j hj] at h4
    exact S.inj i j d e v e1 e2 h3 h4
theorem wipe_at {σ : L2.St} {i : Nat} : ∀ {vs : List Nat}, i ∈ vs → i < σ.length → (L2.wipe σ vs)[i]? = some none
  | [], h, _ => by cases h
  | v :: vs, h, hl => by
    unfold L2.wipe
    rw [List.getElem?_set]
    by_cases e : v = i
    · subst e
      rw [if_pos rfl, if_pos (by rw [L2.wipe_length]; exact hl)]
    · rw [if_neg e]
      rcases List.mem_cons.mp h with h | h
      · exact absurd h.symm e
      · exact wipe_at h hl
theorem wipe_big {σ : L2.St} {i : Nat} (h : σ.length ≤ i) {vs : List Nat} : (L2.wipe σ vs)[i]? = none := List.getElem?_eq_none (by rw [L2.wipe_length]; exact h)
theorem wipe_eq {σ σ' : L2.St} {vs : List Nat} (hl : σ'.length = σ.length) (h : ∀ i, i ∉ vs → σ'[i]? = σ[i]?) : L2.wipe σ' vs = L2.wipe σ vs := by
  refine List.ext_getElem? fun i => ?_
  by_cases hb : i < σ.length
  · by_cases hi : i ∈ vs
    · rw [wipe_at hi hb, wipe_at hi (by omega)]
    · rw [L2.wipe_out hi, L2.wipe_out hi, h i hi]
  · rw [wipe_big (by omega), wipe_big (by omega)]
end
section
variable {X : Cx} {fx : List Nat}
/-! ### tests of a comprehension -/
abbrev DTs (X : Cx) (ifs : List Expr) (t : TB) : Prop := PTs X ifs (liftT (rc X) t)
def dYes : TB := fun sd => some (true, sd)
theorem dts_nil : DTs X [] dYes := ⟨fun pins s σ H Q I ⟨G, T, sd, b, sd', S, e, k⟩ => by
  cases e
  exact pts_nil.run pins s σ H Q I (k G H Same.refl S)⟩
theorem dts_one {e : Expr} {t : TB} (h : DT X e t) : DTs X [e] t := pts_one h
/-! ### [elt for tg in iter if ..] -/
def dLcL (b : BG) (tt : TB) (te : TF) (vs : List Nat) : List D → DEnv → Option (List D × DEnv)
  | [], sd => some ([], sd)
  | x :: xs, sd => (b x (wipeD sd vs)).bind fun s1 => (tt s1).bind fun p => if p.1 = true then (te p.2).bind fun q => (dLcL b tt te vs xs q.2).bind fun r => some (q.1 :: r.1, r.2) else dLcL b tt te vs xs p.2
def dLc (w : TW) (b : BG) (tt : TB) (te : TF) (vs : List Nat) : TV := fun sd => (w sd).bind fun p => (dLcL b tt te vs p.1 p.2).bind fun q => if q.1.length ≤ sizeLine then some (.ow (.lst q.1), wipeD q.2 vs) else none
theorem lc_read {w : TW} {b : BG} {tt : TB} {te : TF} {vs fxc : List Nat} {N : Nat} {σ : L2.St} {H : Hp} {Q : VK} (hfx : ∀ i, i < N → i ∉ vs → i ∈ fxc) (hN : σ.length = N)
    (h : liftV (rc X) (dLc w b tt te vs) σ H Q) : tLc (liftI (rc X) w) (liftG (rc X) fxc b) (liftT (rc X) tt) (liftF (rc X) te) vs σ H Q := by
  obtain ⟨G, T, sd, r, sd', S, e1, k⟩ := h
  obtain ⟨p, hp, e1⟩ := bindS e1
  obtain ⟨⟨qs, qe⟩, hq, e1⟩ := bindS e1
  obtain ⟨hz, e2⟩ := ite_some e1
  cases e2
  replace hz : qs.length ≤ sizeLine := hz
  refine ⟨G, T, sd, p.1, p.2, S, hp, fun J G1 H1 s1 S1 W => ?_⟩
  intro A hA
  have gA : G1 A = none := S1.gnone hA
  have tA : T A = none := Same.nn S1.sameT hA
  have keepσ : ∀ i, i ∉ vs → (L2.wipe σ vs)[i]? = σ[i]? := fun i hi => L2.wipe_out hi
  refine ⟨fun i m H => m = p.1.length - i ∧ i ≤ p.1.length ∧ ∃ G2 sd2 va da rest, Same G1 G2 ∧ G2 A = none ∧ StOk (rc X) G2 (upd T A (.lst va)) (wipeD sd2 vs) (L2.wipe σ vs) H ∧ RepL (rc X) G2 da va ∧ dLcL b tt te vs (p.1.drop i) sd2 = some (rest, qe) ∧ da ++ rest = qs, ⟨p.1.length, by simp, Nat.zero_le _, G1, p.2, [], [], qs, Same.refl, gA, ?_, RepL.nil, hq, rfl⟩, ?_⟩
  · exact ((S1.more hA).wiped (L2.wipe_length σ vs) keepσ).guard1 gA tA upd_same (((S1.wiped (L2.wipe_length σ vs) keepσ)).fresh_new hA)
  rintro i m H3 ⟨rfl, hi, G2, sd2, va, da, rest, s2, hG2, S2, rl, e2, e3⟩
  by_cases hlt : i < p.1.length
  · obtain ⟨x, hx, hd⟩ : ∃ x, p.1[i]? = some x ∧ p.1.drop i = x :: p.1.drop (i + 1) := ⟨p.1[i], by simp [hlt], List.drop_eq_getElem_cons hlt⟩
    rw [hd] at e2
    obtain ⟨s3, e4, e2⟩ := bindS e2
    obtain ⟨u, e5, e2⟩ := bindS e2
    obtain ⟨go, yl⟩ := (W i G2 H3 s2 S2.same).1 x hx
    refine .inr ⟨go, fun H' => i + 1 ≤ p.1.length ∧ ∃ G' sd3 va da rest, Same G1 G' ∧ G' A = none ∧ StOk (rc X) G' (upd T A (.lst va)) (wipeD sd3 vs) (L2.wipe σ vs) H' ∧ RepL (rc X) G' da va ∧ dLcL b tt te vs (p.1.drop (i + 1)) sd3 = some (rest, qe) ∧ da ++ rest = qs, ?_, ?_⟩
    · rintro H' ⟨h1, rest'⟩
      exact ⟨p.1.length - (i + 1), by omega, rfl, h1, rest'⟩
    · intro v H' y
      obtain ⟨G3, s5, gr, rx⟩ := yl v H' y
      obtain ⟨_, _, S3⟩ := S2.grow gr
      refine ⟨G3, upd T A (.lst va), wipeD sd2 vs, x, s3, S3, rx, e4, fun σ4 G4 H4 s6 f4 S4 => ?_⟩
      have l4 : σ4.length = (L2.wipe σ vs).length := f4.2
      have k4 : ∀ i, i ∉ vs → σ4[i]? = (L2.wipe σ vs)[i]? := fun i hi => by
        by_cases hb : i < N
        · exact f4.1 i (hfx i hb hi)
        · rw [List.getElem?_eq_none (by rw [l4, L2.wipe_length]; omega), wipe_big (by omega)]
      have w4 : L2.wipe σ4 vs = L2.wipe σ vs := by
        rw [wipe_eq l4 k4]
        exact wipe_eq (L2.wipe_length σ vs) keepσ
      refine ⟨w4, ?_⟩
      refine ⟨G4, upd T A (.lst va), s3, u.1, u.2, S4, e5, fun G5 H5 s7 S5 => ?_⟩
      split at e2
      · rename_i hb
        rw [if_pos hb]
        obtain ⟨z, e6, e2⟩ := bindS e2
        obtain ⟨rr, e7, e2⟩ := bindS e2
        cases e2
        refine ⟨G5, upd T A (.lst va), u.2, z.1, z.2, S5, e6, fun yv G6 H6 s8 S6 ry => ?_⟩
        have hA6 : H6 A = some (.lst va) := S6.sameT A _ upd_same
        have gA6 : G6 A = none := S6.apart A _ upd_same
        have sall : Same G2 G6 := Same.tr s5 (Same.tr s6 (Same.tr s7 s8))
        refine ⟨va, hA6, ?_, hlt, G6, z.2, va ++ [yv], da ++ [z.1], rr.1, Same.tr s2 sall, gA6, ?_, (RepL.mono sall _ _ rl).append (RepL.one ry), e7, by rw [← e3, List.append_assoc]; rfl⟩
        · have h1 := rl.length
          have h2 := congrArg List.length e3
          rw [List.length_append, List.length_cons] at h2
          omega
        · have f6 : Fresh z.2 σ4 (.ref A) := S6.fresh_T upd_same
          have S7 := (S6.unguard (same_upd tA)).write_free (o := .lst (va ++ [yv])) gA6 tA f6
          exact (S7.guard1 (o := .lst (va ++ [yv])) gA6 tA upd_same f6).wiped (σ' := L2.wipe σ vs) (vs := vs) (by rw [l4]) fun i hi => (k4 i hi).symm
      · rename_i hb
        rw [if_neg hb]
        have sall : Same G2 G5 := Same.tr s5 (Same.tr s6 s7)
        exact ⟨hlt, G5, u.2, va, da, rest, Same.tr s2 sall, S5.apart A _ upd_same, S5.wiped (by rw [l4]) fun i hi => (k4 i hi).symm, RepL.mono sall _ _ rl, e2, e3⟩
  · have e : i = p.1.length := by omega
    subst e
    rw [List.drop_length] at e2
    cases e2
    rw [List.append_nil] at e3
    subst e3
    have hA3 : H3 A = some (.lst va) := S2.sameT A _ upd_same
    have S5 := (S2.unguard (same_upd tA)).frame (σ' := σ) (by rw [L2.wipe_length]) fun i dv e => (keepσ i (wipeD_some e).2).symm
    have S6 := S2.frame (σ' := σ) (by rw [L2.wipe_length]) fun i dv e => (keepσ i (wipeD_some e).2).symm
    exact .inl ⟨(W _ G2 H3 s2 S2.same).2 (Nat.le_refl _), k _ G2 H3 (Same.tr s1 s2) S5 ⟨A, rfl, hG2, tA, va, hA3, rl⟩ (S6.fresh_T upd_same)⟩
theorem dv_lc {elt tg iter : Expr} {ifs : List Expr} {scope : Scope} {own : List (Str × Nat)} {pos : Pos} {w : TW} {b : BG} {tt : TB} {te : TF} {fxc : List Nat} (hfx : ∀ i, i < X.N.length → i ∉ own.map (·.2) → i ∈ fxc) (hc : X.calm = true) (hN : X.N.Nodup) (hi : DI X tg iter w) (ok : BlkOk X.N X.env.scope scope own)
    (hg : ∀ (s : Shared) (H : Hp) (C : Addr) (cl : List (Str × Addr)) (fp : List Addr), DG (X.blk s H scope (compEnvC scope cl C X.env) fp) fxc tg b) (ht : ∀ (s : Shared) (H : Hp) (C : Addr) (cl : List (Str × Addr)) (fp : List Addr), DTs (X.blk s H scope (compEnvC scope cl C X.env) fp) ifs tt)
    (he : ∀ (s : Shared) (H : Hp) (C : Addr) (cl : List (Str × Addr)) (fp : List Addr), DF (X.blk s H scope (compEnvC scope cl C X.env) fp) elt te) (hs : ∀ x, foldedSetIterable iter X.env x = pure x := by intro _; rfl) :
    DVE X (.ListComp elt [⟨tg, iter, ifs, 0⟩] scope pos) (dLc w b tt te (own.map (·.2))) :=
  ⟨fun pins s σ H Q I h => (pe_lc hc hN hi ok hg ht he hs).run pins s σ H Q I (lc_read hfx I.len h)⟩
theorem ds_setLc {i : Nat} {y : Str} {py : Pos} {elt tg iter : Expr} {ifs : List Expr} {scope : Scope} {own : List (Str × Nat)} {pos spos : Pos} {w : TW} {b : BG} {tt : TB} {te : TF} {fxc : List Nat} (hfx : ∀ i, i < X.N.length → i ∉ own.map (·.2) → i ∈ fxc) (hc : X.calm = true) (hN : X.N.Nodup) (hy : X.N[i]? = some y) (hyl : X.env.scope.names.lookup y = some .local)
    (hsw : swapsWith (.ListComp elt [⟨tg, iter, ifs, 0⟩] scope pos) (some (.Name y py)) spos.line X.env = pure true) (hi : DI X tg iter w) (ok : BlkOk X.N X.env.scope scope own)
    (hg : ∀ (s : Shared) (H : Hp) (C : Addr) (cl : List (Str × Addr)) (fp : List Addr), DG (X.blk s H scope (compEnvC scope cl C X.env) fp) fxc tg b) (ht : ∀ (s : Shared) (H : Hp) (C : Addr) (cl : List (Str × Addr)) (fp : List Addr), DTs (X.blk s H scope (compEnvC scope cl C X.env) fp) ifs tt)
    (he : ∀ (s : Shared) (H : Hp) (C : Addr) (cl : List (Str × Addr)) (fp : List Addr), DF (X.blk s H scope (compEnvC scope cl C X.env) fp) elt te) (hix : i ∉ fx := by decide) (hs : ∀ x, foldedSetIterable iter X.env x = pure x := by intro _; rfl) :
    DS' X fx (.Assign [.Name y py] (.ListComp elt [⟨tg, iter, ifs, 0⟩] scope pos) spos) (dSet i (dLc w b tt te (own.map (·.2)))) :=
  ⟨fun pins s σ H E I h => by
    refine (ps_setLc (g := liftG (rc X) fxc b) (tt := liftT (rc X) tt) (te := liftF (rc X) te) hc hN hy hyl hsw hi ok hg ht he hs).run pins s σ H E I ?_
    obtain ⟨G, T, sd, o, sd', S, e1, k⟩ := h
    obtain ⟨p, hp, e1⟩ := bindS e1
    cases e1
    exact lc_read hfx I.len ⟨G, T, sd, p.1, p.2, S, hp, fun v G' H' s S' r f => k (σ.set i (some v)) G' H' s (fix_set hix) (S'.store r f)⟩⟩
/-! ### a, b = x, y -/
def dPar (i j : Nat) (t : TAr) : TM := fun sd => (t sd).bind fun p => match p.1 with
  | [.v r1, .v r2] => some (.nx, (p.2.set i (some r1)).set j (some r2))
  | _ => none
theorem StOk.store2 {c : RC} {G T H : Hp} {sd : DEnv} {σ : L2.St} (S : StOk c G T sd σ H) {i : Nat} {r1 r2 : DV} {v w : V} (a1 : RepV c G T H r1 v) (f1 : FreshV sd σ r1 v) (a2 : RepV c G T H r2 w) (f2 : FreshV sd σ r2 w) (nd : (roots [.v r1, .v r2] [v, w]).Nodup) :
    StOk c G T (sd.set i (some r1)) (σ.set i (some v)) H ∧ FreshV (sd.set i (some r1)) (σ.set i (some v)) r2 w := by
  refine ⟨S.store a1 f1, ?_⟩
  cases r2 with
  | fz d => exact True.intro
  | ow d =>
    intro k d' e1 e2
    rw [List.getElem?_set] at e1 e2
    by_cases hk : i = k
    · subst hk
      rw [if_pos rfl] at e1 e2
      split at e1
      · split at e2
        · cases e1; cases e2
          simp [roots] at nd
        · cases e2
      · cases e1
    · rw [if_neg hk] at e1 e2
      exact f2 k d' e1 e2
theorem ds_par {i j : Nat} {x y : Str} {a b : Expr} {t : TAr} {px py pt pos : Pos} {kt k2 pt2} (hc : X.calm = true) (hN : X.N.Nodup) (hi : X.N[i]? = some x) (hj : X.N[j]? = some y) (hij : i ≠ j)
    (hx : X.env.scope.names.lookup x = some .local) (hy : X.env.scope.names.lookup y = some .local) (ha : DAr X [a, b] t)
    (hw : swappedStores [.Tuple [.Name x px, .Name y py] kt pt] (.Tuple [a, b] k2 pt2) X.env = pure (some [x, y]))
    (hfi : i ∉ fx := by decide) (hfj : j ∉ fx := by decide)
    (hs : swapsWithSole [.Tuple [.Name x px, .Name y py] kt pt] (.Tuple [a, b] k2 pt2) pos.line X.env = pure false := by rfl) :
    DS' X fx (.Assign [.Tuple [.Name x px, .Name y py] kt pt] (.Tuple [a, b] k2 pt2) pos) (dPar i j t) :=
  PSi (ps_par hc hN hi hj hij hx hy ha hw hs) fun E σ H ⟨G, T, sd, o, sd', S, e1, k⟩ => by
    obtain ⟨p, hp, e1⟩ := bindS e1
    refine ⟨G, T, sd, p.1, p.2, S, hp, fun vs G1 H1 s1 S1 A => ?_⟩
    split at e1
    · rename_i r1 r2 hr
      cases e1
      rw [hr] at A
      obtain ⟨hall, nd⟩ := A
      cases hall with
      | @cons _ v _ vr h1 t1 =>
        cases t1 with
        | @cons _ w _ wr h2 t2 =>
          cases t2
          obtain ⟨S2, f2⟩ := S1.store2 (i := i) h1.1 h1.2 h2.1 h2.2 nd
          exact ⟨v, w, rfl, k _ G1 H1 s1 (Fix.tr (fix_set hfi) (fix_set hfj)) (S2.store h2.1 f2)⟩
    · cases e1
end
end DS
end

section
set_option Elab.async false
set_option linter.all false
set_option maxRecDepth 100000
set_option maxHeartbeats 1000000
namespace DS
open PySem PySem.Spec PyProof.Rows L2
section
variable {X : Cx} {fx : List Nat}
/-! ### {} and {k: v} -/
theorem dct_new {P : Program} {w : World} {h : Heap} : DctRaw P w h.objs.size [] { cls := .type "dict", data := .dict #[] } (h.push { cls := .type "dict", data := .dict #[] }) :=
  ⟨#[], 0, [], Heap.get?_push_size _ rfl, ⟨rfl, rfl, rfl⟩, rfl, rfl, .nil⟩
abbrev emptyD : Obj := { cls := .type "dict", data := .dict #[] }
theorem pe_dnewN {pos : Pos} : PE X (.Dict [] [] pos) (fun _ H Q => ∀ p, H p = none → (p == sysModules) = false → Q (.ref p) (upd H p (dctO X.prog X.w p [] emptyD))) := ⟨fun pins s σ H Q I h =>
  wpAny_Dict_empty ⟨.ref s.heap.objs.size, _, I.laid (a := s.heap.objs.size) (o := dctO X.prog X.w s.heap.objs.size [] emptyD) (t' := s.toks) (fun _ _ q => Heap.get?_push_of_some _ q) (Nat.le_refl _) (dct_obj dct_new), rfl,
    h _ (I.hok.fresh (Nat.le_refl _)) (beq_eq_false_iff_ne.mpr (Ne.symm (Nat.ne_of_lt I.big)))⟩⟩
theorem DA.empty {c : RC} {H : Hp} {p : Addr} {o : Obj} (hs : (p == sysModules) = false) (h : H p = some (dctO c.P c.w p [] o)) : DA c H p [] := ⟨hs, ⟨o, h⟩, List.nodup_nil, Nat.zero_le _⟩
def dDnew : TV := fun sd => some (.ow (.dct []), sd)
theorem dv_dnew {pos : Pos} : DVE X (.Dict [] [] pos) dDnew := PEi pe_dnewN fun σ H Q ⟨G, T, sd, r, sd', S, e, k⟩ => by
  cases e
  intro p hp hs
  exact k _ G _ Same.refl (S.more hp) ⟨p, rfl, S.gnone hp, Same.nn S.sameT hp, [], DA.empty hs upd_same, by simp [RepI]⟩ (S.fresh_new hp)
def tDisp1 (X : Cx) (tk tv : TE) : TE := fun σ H Q => ∀ p, H p = none → (p == sysModules) = false → tk σ (upd H p (dctO X.prog X.w p [] emptyD)) fun kv H1 => tv σ H1 fun vv H2 =>
  H2 p = some (dctO X.prog X.w p [] emptyD) ∧ ∃ G kd k b, kv = .ref b ∧ Same G H2 ∧ Rep (rc X) G kd (.ref b) ∧ keyOk kd = some k ∧ ∀ o, Q (.ref p) (upd H2 p (dctO X.prog X.w p [(k, b, vv)] o))
theorem pe_disp1 {k v : Expr} {pos : Pos} {tk tv : TE} (hu : X.A.units + 64 < cLine) (hk : PE X k tk) (hv : PE X v tv) : PE X (.Dict [some k] [v] pos) (tDisp1 X tk tv) := by
  refine ⟨fun pins s σ H Q I q => ?_⟩
  have hn := I.hok.fresh (Nat.le_refl s.heap.objs.size)
  have I1 := I.laid (a := s.heap.objs.size) (o := dctO X.prog X.w s.heap.objs.size [] emptyD) (h' := s.heap.push emptyD) (t' := s.toks) (fun _ _ q => Heap.get?_push_of_some _ q) (Nat.le_refl _) (dct_obj dct_new)
  have q0 := q _ hn (beq_eq_false_iff_ne.mpr (Ne.symm (Nat.ne_of_lt I.big)))
  rw [arm_eval_Dict, zip_pairTrees [some k] [v] X.env pos rfl rfl, dictDisplay_pairs (pairTrees [some k] [v] X.env pos) (by simp [pairTrees]) (by simp [pairTrees])]
  refine wpAny_bind (wpAny_standAt (wpAny_bind (wpAny_subDictH (knd := nestedKind X.prog X.w) (Q := fun d s' => wpAny (model X.prog X.w) X.A (pure (Value.ref d)) (EP X pins σ Q) X.xe s') (by show X.A.units + 8 < cLine; omega) (by simp [pairTrees]) ?_)))
  refine pairTrees_cons_walk (thn (hk.run pins _ σ _ _ I1 q0) fun kv s2 ⟨kx, H2, I2, rk, q2⟩ => thn (hv.run pins s2 σ H2 _ I2 q2) fun vv s3 ⟨vx, H3, I3, rv, hp, G, kd, kk, b, ek, hs, rkd, hko, fin⟩ => ?_)
  subst ek
  obtain rfl : kv = .ref b := rk
  refine pairTrees_nil_walk ?_
  obtain ⟨b', e1, hkey, _, _⟩ := keyIs I3 hs rkd hko
  cases e1
  have hda : DA (rc X) H3 s.heap.objs.size [] := DA.empty (beq_eq_false_iff_ne.mpr (Ne.symm (Nat.ne_of_lt I.big))) hp
  obtain ⟨xs, hx, hpp⟩ := hda.dict (its := []) I3 hs (by simp [RepI])
  cases hpp
  refine ⟨[(kk, b, vv)], ⟨rfl, rfl, hkey, True.intro⟩, hx, fun h' tk' hm' hsb => wpAny_pure ?_⟩
  have e2 : storedAllH ([] : List (NestedKey × Addr × Value)) [(kk, b, vv)] = [(kk, b, vv)] := by rfl
  rw [e2] at hm'
  obtain ⟨on, hon⟩ := dct_of (es := [(kk, b, vx)]) hm' (.cons ⟨rfl, rfl, rv⟩ .nil)
  refine ⟨.ref s.heap.objs.size, _, I3.write (x := s.heap.objs.size) (e := s.heap.objs.size) (by rw [hp]; exact True.intro) (.inl rfl) (fun c ob hc e => (hsb.2 c hc).trans e) ?_ (dct_obj hon), rfl, fin on⟩
  obtain ⟨ob, _, _, ho, _⟩ := hm'
  exact ⟨ob, ho⟩
def dDisp1 (tk tv : TF) : TV := fun sd => (tk sd).bind fun p => (tv p.2).bind fun q => (keyOk p.1).bind fun k => some (.ow (.dct [.tup [p.1, q.1]]), q.2)
theorem dv_disp1 {k v : Expr} {pos : Pos} {tk tv : TF} (hu : X.A.units + 64 < cLine) (hk : DF X k tk) (hv : DF X v tv) : DVE X (.Dict [some k] [v] pos) (dDisp1 tk tv) :=
  PEi (pe_disp1 hu hk hv) fun σ H Q ⟨G, T, sd, r, sd', S, e1, kk⟩ => by
    obtain ⟨p, hp, e1⟩ := bindS e1
    obtain ⟨q, hq, e1⟩ := bindS e1
    obtain ⟨k, hkk, e1⟩ := bindS e1
    cases e1
    intro A hA hs
    have gA := S.gnone hA
    have tA : T A = none := Same.nn S.sameT hA
    have S0 := (S.more (o := dctO X.prog X.w A [] emptyD) hA).guard1 gA tA upd_same (S.fresh_new hA)
    refine ⟨G, _, sd, p.1, p.2, S0, hp, fun kv G1 H1 s1 S1 r1 => ⟨G1, _, p.2, q.1, q.2, S1, hq, fun vv G2 H2 s2 S2 r2 => ?_⟩⟩
    have hA2 : H2 A = some (dctO X.prog X.w A [] emptyD) := S2.sameT A _ upd_same
    have g2 : G2 A = none := S2.apart A _ upd_same
    have r1' := Rep.mono s2 _ _ r1
    obtain ⟨b, rfl⟩ := r1'.isRef hkk
    obtain ⟨_, hnk, hdep⟩ := keyOk_inv hkk
    refine ⟨hA2, G2, p.1, k, b, rfl, S2.same, r1', hkk, fun o => ?_⟩
    have f2 : Fresh q.2 σ (.ref A) := S2.fresh_T upd_same
    refine kk _ G2 _ (Same.tr s1 s2) ((S2.unguard (same_upd tA)).write_free g2 tA f2) ⟨A, rfl, g2, tA, [(k, b, vv)], ⟨hs, ⟨o, upd_same⟩, by simp, by rw [sizeLine_eq]; simp⟩, ?_⟩ f2
    exact RepI.consI hnk hdep r1' r2 (by simp [RepI])
end
end DS
end

section
set_option Elab.async false
set_option linter.all false
set_option maxRecDepth 100000
set_option maxHeartbeats 1000000
namespace DS
open PySem PySem.Spec PyProof.Rows L2
section
variable {X : Cx} {pins : List (Addr × Obj)} {σ : L2.St} {H : Hp} {s : Shared}
/-! ### data read off the heap: of lists, only those that are frozen -/
mutual
theorem Rep.rds {G : Hp} (I : Inv X pins σ H s) (hs : Same G H) : ∀ (d : D) (v : V) (u : Value) (x : PyData), Rep (rc X) G d v → D.pd d = some x → RelV v u → ∃ as, Reads s.heap u x as ∧ ∀ b ∈ as, ∃ o, G b = some o
  | .non, v, u, x, h, e, r => by
    simp only [Rep, D.pd, Option.some.injEq] at h e; subst h e; cases r; exact ⟨_, .none, by simp⟩
  | .bl b, v, u, x, h, e, r => by
    simp only [Rep, D.pd, Option.some.injEq] at h e; subst h e; cases r; exact ⟨_, .bool b, by simp⟩
  | .int i, v, u, x, h, e, r => by
    simp only [Rep, D.pd, Option.some.injEq] at h e; subst h e; obtain ⟨t, rfl⟩ := r; exact ⟨_, .int i t, by simp⟩
  | .str z, v, u, x, h, e, r => by
    simp only [Rep, D.pd, Option.some.injEq] at h e; subst h e; obtain ⟨t, rfl⟩ := r; exact ⟨_, .str z t, by simp⟩
  | .tup ds, v, u, x, h, e, r => by
    simp only [Rep, D.pd] at h e
    obtain ⟨a, vs, rfl, q, rl⟩ := h
    split at e
    · rename_i l hl
      cases e; cases r
      obtain ⟨its, rv, ⟨o, ho, hc, n, hd⟩, _⟩ := I.tuple (SqT.mono q hs)
      obtain ⟨as, h1, h2⟩ := RepL.rds I hs ds vs its l rl hl rv
      exact ⟨as, .tuple ho hc hd (by simpa using h1), h2⟩
    · cases e
  | .lst ds, v, u, x, h, e, r => by
    simp only [Rep, D.pd] at h e
    obtain ⟨a, vs, rfl, q, rl⟩ := h
    split at e
    · rename_i l hl
      cases e; cases r
      obtain ⟨its, rv, ⟨o, n, ho, hc, _, hd⟩, _⟩ := I.list (SqL.of (hs _ _ q))
      obtain ⟨as, h1, h2⟩ := RepL.rds I hs ds vs its l rl hl rv
      refine ⟨_, .list ho hc hd (by simpa using h1), fun b hb => ?_⟩
      rcases List.mem_cons.mp hb with rfl | hb
      · exact ⟨_, q⟩
      · exact h2 b hb
    · cases e
  | .kl _, v, u, x, h, e, r => by simp [D.pd] at e
  | .dct _, v, u, x, h, e, r => by simp [D.pd] at e
  | .ins _ _ _, v, u, x, h, e, r => by simp [D.pd] at e
theorem RepL.rds {G : Hp} (I : Inv X pins σ H s) (hs : Same G H) : ∀ (ds : List D) (vs : List V) (us : List Value) (xs : List PyData), RepL (rc X) G ds vs → D.pds ds = some xs → Vals vs us → ∃ as, ReadsAll s.heap us xs as ∧ ∀ b ∈ as, ∃ o, G b = some o
  | [], vs, us, xs, h, e, r => by
    simp only [RepL, D.pds, Option.some.injEq] at h e; subst h e; cases r; exact ⟨_, .nil, by simp⟩
  | d :: ds, vs, us, xs, h, e, r => by
    simp only [RepL, D.pds] at h e
    obtain ⟨v, vr, rfl, h1, h2⟩ := h
    split at e
    · rename_i x l hx hl
      cases e
      cases r with
      | cons r1 r2 =>
        obtain ⟨as, a1, a2⟩ := Rep.rds I hs d v _ x h1 hx r1
        obtain ⟨bs, b1, b2⟩ := RepL.rds I hs ds vr _ l h2 hl r2
        refine ⟨_, .cons a1 b1, fun b hb => ?_⟩
        rcases List.mem_append.mp hb with hb | hb
        · exact a2 b hb
        · exact b2 b hb
    · cases e
end
/-! ### sorting -/
def pdE (d : D) : PyData := (D.pd d).getD .none
def alikeL (ps : List PyData) : Bool := ps.all fun x => ps.all fun y => PySem.W.alike x y
def isTup1 : PyData → Bool
  | .tuple (_ :: _) => true
  | _ => false
def isOther : PyData → Bool
  | .none => false
  | .tuple _ => false
  | _ => true
def srtOk (ps : List PyData) : Bool := alikeL ps && (ps.all isTup1 || ps.all isOther) && ps.all fun p => decide (p.depth ≤ 32)
def sortD (ds : List D) : Option (List D) := match D.pds ds with
  | some ps => if srtOk ps = true ∧ ds.length ≤ sizeLine then some (ds.mergeSort (PySem.W.dataLe false pdE)) else none
  | none => none
theorem pds_map : ∀ {ds : List D} {ps : List PyData}, D.pds ds = some ps → ps = ds.map pdE ∧ ∀ d ∈ ds, D.pd d = some (pdE d)
  | [], ps, h => by simp only [D.pds, Option.some.injEq] at h; subst h; exact ⟨rfl, fun d hd => by cases hd⟩
  | d :: ds, ps, h => by
    simp only [D.pds] at h
    split at h
    · rename_i x l hx hl
      cases h
      obtain ⟨h1, h2⟩ := pds_map hl
      refine ⟨by rw [List.map_cons, ← h1]; unfold pdE; rw [hx]; rfl, fun e he => ?_⟩
      rcases List.mem_cons.mp he with rfl | he
      · unfold pdE; rw [hx]; rfl
      · exact h2 e he
    · cases h
theorem srtOk_iff {ps : List PyData} (h : srtOk ps = true) : PySem.W.AllAlike ps ∧ PySem.W.Sortable ps ∧ ∀ p ∈ ps, p.depth ≤ 32 := by
  unfold srtOk at h
  rw [Bool.and_eq_true, Bool.and_eq_true, Bool.or_eq_true] at h
  obtain ⟨⟨h1, h2⟩, h3⟩ := h
  refine ⟨fun d hd e he => ?_, ?_, fun p hp => of_decide_eq_true (List.all_eq_true.mp h3 p hp)⟩
  · exact List.all_eq_true.mp (List.all_eq_true.mp h1 d hd) e he
  · rcases h2 with h2 | h2
    · refine .inl fun d hd => ?_
      have := List.all_eq_true.mp h2 d hd
      unfold isTup1 at this
      split at this
      · exact ⟨_, _, rfl⟩
      · cases this
    · refine .inr fun d hd => ?_
      have := List.all_eq_true.mp h2 d hd
      unfold isOther at this
      split at this
      · cases this
      · cases this
      · rename_i h4 h5
        exact ⟨h4, h5⟩
abbrev RvD (X : Cx) (G : Hp) (u : Value) (d : D) : Prop := ∃ v, RelV v u ∧ Rep (rc X) G d v
theorem each_of {G : Hp} : ∀ {ds : List D} {vs : List V} {us : List Value}, RepL (rc X) G ds vs → Vals vs us → PySem.W.EachIs (RvD X G) us ds
  | [], vs, us, h, r => by simp only [RepL] at h; subst h; cases r; exact .nil
  | d :: ds, vs, us, h, r => by
    obtain ⟨v, vr, rfl, h1, h2⟩ := h.uncons
    cases r with
    | cons r1 r2 => exact .cons ⟨v, r1, h1⟩ (each_of h2 r2)
theorem of_each {G : Hp} : ∀ {ds : List D} {us : List Value}, PySem.W.EachIs (RvD X G) us ds → ∃ vs, RepL (rc X) G ds vs ∧ Vals vs us
  | [], _, .nil => ⟨[], RepL.nil, .nil⟩
  | d :: ds, _, .cons ⟨v, r1, h1⟩ t => by
    obtain ⟨vs, h2, r2⟩ := of_each t
    exact ⟨v :: vs, RepL.cons h1 h2, .cons r1 r2⟩
theorem each_rds {G : Hp} (I : Inv X pins σ H s) (hs : Same G H) : ∀ {ds : List D} {vs : List V} {us : List Value}, RepL (rc X) G ds vs → Vals vs us → (∀ d ∈ ds, D.pd d = some (pdE d)) → PySem.W.EachIs (fun v b => ∃ as, Reads s.heap v (pdE b) as ∧ ∀ b ∈ as, ∃ o, G b = some o) us ds
  | [], vs, us, h, r, _ => by simp only [RepL] at h; subst h; cases r; exact .nil
  | d :: ds, vs, us, h, r, e => by
    obtain ⟨v, vr, rfl, h1, h2⟩ := h.uncons
    cases r with
    | cons r1 r2 => exact .cons (Rep.rds I hs d v _ _ h1 (e d (List.mem_cons_self ..)) r1) (each_rds I hs h2 r2 fun x hx => e x (List.mem_cons_of_mem _ hx))
/-- the list at l, the caller's own, is sorted -/
theorem sort_run {G : Hp} {A : Around} {E : Value → Shared → Prop} {l : Addr} {vs : List V} {ds rs : List D} (I : Inv X pins σ H s) (hs : Same G H) (hl : H l = some (.lst vs)) (hG : G l = none) (r : RepL (rc X) G ds vs) (hr : sortD ds = some rs) (hu : A.units + 1 + 32 < cLine) :
    wpAny (model X.prog X.w) A (call (.builtin "list.sort") [.ref l]) (fun _ s' => ∃ vs', Inv X pins σ (upd H l (.lst vs')) s' ∧ RepL (rc X) G rs vs') E s := by
  unfold sortD at hr
  split at hr
  · rename_i ps hps
    obtain ⟨⟨hok, hz⟩, e⟩ := ite_some hr
    obtain ⟨e1, hpd⟩ := pds_map hps
    obtain ⟨h1, h2, h3⟩ := srtOk_iff hok
    rw [e1] at h1 h2 h3
    obtain ⟨_, its, n, rv, hob⟩ := I.hok l _ hl
    have e0 := (each_rds I hs r rv hpd).mono (R' := fun v b => ∃ as, Reads s.heap v (pdE b) as ∧ l ∉ as) fun v b ⟨as, q1, q2⟩ => ⟨as, q1, fun hm => by
      obtain ⟨o, ho⟩ := q2 l hm
      rw [hG] at ho; cases ho⟩
    refine PySem.W.list_sort_data (s := s) (R := RvD X G) (enc := pdE) (bs := ds) hob (each_of r rv) e0 h1 h2 hz (fun b hb => ?_) fun out ho he => ?_
    · have := h3 (pdE b) (List.mem_map.mpr ⟨b, hb, rfl⟩)
      omega
    · rw [e] at he
      obtain ⟨vs', q1, q2⟩ := of_each he
      obtain ⟨ep, he'⟩ := PyProof.Rows.sortedHeap_at (vs := its) (out := out.toArray) hob
      refine ⟨vs', I.write (e := l) (t' := s.toks) (by rw [hl]; trivial) (.inl rfl) (fun b u hb hu => ?_) ⟨_, he'⟩ ⟨?_, out, ep, q2, he'⟩, q1⟩
      · rw [PyProof.Rows.sortedHeap_old hb (Heap.lt_size hu)]; exact hu
      · rw [q1.length, ← e, List.length_mergeSort]; exact hz
  · cases hr
def sortB : FB
  | [.lst ds] => (sortD ds).bind fun rs => some (.ow (.lst rs))
  | _ => none
theorem ca_sorted (hu : X.A.units + 64 < cLine) : CallR X (.builtin "sorted") (liftB (rc X) sortB) := by
  intro pins s σ H xs us Q I rx ⟨G, T, sd, σ1, ds0, r, S, V, e, k⟩
  unfold sortB at e
  split at e
  · rename_i ds
    obtain ⟨rs, hr, e⟩ := bindS e
    cases e
    obtain ⟨v, rfl, h⟩ := V.one
    obtain ⟨a, vs, rfl, q, rl⟩ := h.l S.same
    obtain ⟨u, rfl, ru⟩ := vals1 rx
    cases ru
    unfold sortD at hr
    split at hr
    · rename_i ps hps
      obtain ⟨⟨hok, hz⟩, e⟩ := ite_some hr
      obtain ⟨e1, hpd⟩ := pds_map hps
      obtain ⟨h1, h2, h3⟩ := srtOk_iff hok
      rw [e1] at h1 h2 h3
      obtain ⟨its, rv, p, _⟩ := I.list (SqL.of q)
      refine PySem.W.sorted_data (s := s) (R := RvD X G) (enc := pdE) (bs := ds) p.isList (each_of rl rv) ((each_rds I S.same rl rv hpd).mono fun v b ⟨as, q1, q2⟩ => ⟨as, q1⟩) h1 h2 hz (fun b hb => ?_) fun out ho he => ?_
      · have := h3 (pdE b) (List.mem_map.mpr ⟨b, hb, rfl⟩)
        omega
      · rw [e] at he
        obtain ⟨vs', q1, q2⟩ := of_each he
        obtain ⟨ep, he'⟩ := PyProof.Rows.sortedAll_at s.heap its out.toArray
        have hm : H (s.heap.objs.size + 1) = none := I.hok.fresh (Nat.le_succ _)
        refine ⟨.ref _, _, I.laid (a := s.heap.objs.size + 1) (o := .lst vs') (t' := s.toks) (fun b o hb => PyProof.Rows.sortedAll_old hb) (Nat.le_succ _) ⟨?_, out, ep, q2, he'⟩, rfl, ?_⟩
        · rw [q1.length, ← e, List.length_mergeSort]; exact hz
        · exact k _ G _ Same.refl (S.more hm) ⟨_, rfl, S.gnone hm, Same.nn S.sameT hm, vs', upd_same, q1⟩ (S.fresh_new hm)
    · cases hr
  · cases e
end
end DS
end

section
set_option Elab.async false
set_option linter.all false
set_option maxRecDepth 100000
set_option maxHeartbeats 1000000
namespace DS
open PySem PySem.Spec PyProof.Rows L2
section
variable {X : Cx} {pins : List (Addr × Obj)} {σ : L2.St} {H : Hp} {s : Shared}
/-- tuples that were made are tracked -/
theorem takeL {H0 : Hp} {h' : Heap} {tk : Nat} {P : Addr → List V → Prop} (I0 : Inv X pins σ H0 s) : ∀ (L : List Addr) (H1 : Hp), Inv X pins σ H1 { s with heap := h', toks := tk } → L.Nodup →
    (∀ a ∈ L, s.heap.objs.size ≤ a ∧ H1 a = none ∧ ∃ vs, P a vs ∧ ∀ H2, ObjOk X.prog X.w H2 h' a (.tup vs)) →
    ∃ H2, Inv X pins σ H2 { s with heap := h', toks := tk } ∧ (∀ b, b ∉ L → H2 b = H1 b) ∧ ∀ a ∈ L, ∃ vs, P a vs ∧ H2 a = some (.tup vs)
  | [], H1, I1, _, _ => ⟨H1, I1, fun _ _ => rfl, fun _ h => nomatch h⟩
  | a :: L, H1, I1, hn, h => by
    obtain ⟨hb, hnone, vs, hP, ok⟩ := h a (List.mem_cons_self ..)
    have I2 : Inv X pins σ (upd H1 a (.tup vs)) { s with heap := h', toks := tk } := I1.take (h' := h') (t' := tk) (fun b ob _ e => e) (I0.fpOk hb hnone) (ok _)
    rw [List.nodup_cons] at hn
    obtain ⟨H2, I3, g, q⟩ := takeL I0 L (upd H1 a (.tup vs)) I2 hn.2 fun c hc => by
      obtain ⟨c1, c2, c3⟩ := h c (List.mem_cons_of_mem _ hc)
      exact ⟨c1, by rw [upd_ne (fun z => hn.1 (by rw [← z]; exact hc))]; exact c2, c3⟩
    refine ⟨H2, I3, fun b hb => ?_, fun c hc => ?_⟩
    · rw [g b (fun z => hb (List.mem_cons_of_mem _ z)), upd_ne (fun z => hb (by rw [z]; exact List.mem_cons_self))]
    · by_cases hca : c = a
      · subst hca
        exact ⟨vs, hP, by rw [g c hn.1, upd_same]⟩
      · rcases List.mem_cons.mp hc with z | hc
        · exact absurd z hca
        · exact q c hc
theorem items_laid {G : Hp} {its : List D} {es : List Ent} {xs : List (NestedKey × Addr × Value)} {ents : Array DictEntry} {h' : Heap} {tk n : Nat} {l : Addr} {as : List Addr}
    (I : Inv X pins σ H s) (hs : Same G H) (ri : RepI (rc X) G its es) (hz : its.length ≤ sizeLine) (he : ents.toList = xs.map (entryOfKey (nestedKind X.prog X.w))) (hp : Paired EntRel es xs)
    (hk : ∀ b o, s.heap.get? b = some o → h'.get? b = some o) (hl : s.heap.objs.size ≤ l) (hla : l ∉ as) (nd : as.Nodup) (hge : ∀ a ∈ as, s.heap.objs.size ≤ a) (hlen : as.length = ents.size)
    (hpr : ∀ (j : Nat) (a : Addr), as[j]? = some a → ∃ e, ents[j]? = some e ∧ h'.get? a = some { cls := .type "tuple", data := .seq #[e.key, e.val] })
    (hL : h'.get? l = some { cls := .type "list", data := .seq (as.map Value.ref).toArray n }) :
    ∃ G' H' vs, Inv X pins σ H' { s with heap := h', toks := tk } ∧ Grow G H G' H' ∧ H l = none ∧ G' l = none ∧ H' l = some (.lst vs) ∧ RepL (rc X) G' its vs := by
  have lsz : ents.size = xs.length := by rw [← Array.length_toList, he, List.length_map]
  have les : es.length = xs.length := hp.length
  have lit : es.length = its.length := ri.length
  have hl0 : H l = none := I.hok.fresh hl
  have ha0 : ∀ a ∈ as, H a = none := fun a ha => I.hok.fresh (hge a ha)
  have ent : ∀ (j : Nat) (a : Addr), as[j]? = some a → ∃ k b x u, es[j]? = some (k, b, x) ∧ RelV x u ∧ h'.get? a = some { cls := .type "tuple", data := .seq #[.ref b, u] } := fun j a hj => by
    obtain ⟨e, h1, h2⟩ := hpr j a hj
    obtain ⟨hi, e1⟩ := Array.getElem?_eq_some_iff.mp h1
    obtain ⟨k, b, x, u, g1, g2, g3, g4⟩ := dct_entry he hp hi
    rw [e1] at g2 g3
    exact ⟨k, b, x, u, g1, g4, by rw [h2, g2, g3]⟩
  have hvs : Vals (as.map V.ref) (as.map Value.ref) := vals_maps (fun a : Addr => V.ref a) (fun a => Value.ref a) as fun _ _ => rfl
  have I1 : Inv X pins σ (upd H l (.lst (as.map V.ref))) { s with heap := h', toks := tk } :=
    (I.kept (t' := tk) hk).take (h' := h') (t' := tk) (fun b ob _ e => e) (I.fpOk hl hl0) ⟨by rw [List.length_map]; omega, as.map Value.ref, n, hvs, hL⟩
  obtain ⟨H2, I2, g, q⟩ := takeL (P := fun a vs => ∃ (j : Nat) (k : NestedKey) (b : Addr) (x : V), as[j]? = some a ∧ es[j]? = some (k, b, x) ∧ vs = [.ref b, x]) I as _ I1 nd fun a ha => by
    obtain ⟨j, hj⟩ := List.mem_iff_getElem?.mp ha
    obtain ⟨k, b, x, u, h1, h2, h3⟩ := ent j a hj
    refine ⟨hge a ha, ?_, [.ref b, x], ⟨j, k, b, x, hj, h1, rfl⟩, fun H3 => ⟨by show 2 ≤ sizeLine; decide, [.ref b, u], .cons rfl (.cons h2 .nil), ⟨_, h3, rfl, 0, rfl⟩⟩⟩
    rw [upd_ne (fun z => hla (by rw [← z]; exact ha))]
    exact ha0 a ha
  have gnone : ∀ a, H a = none → G a = none := fun a h => Same.nn hs h
  have sG : Same G (fun b => if b ∈ as then H2 b else G b) := fun b o e => by
    show (if b ∈ as then H2 b else G b) = some o
    rw [if_neg (fun hb => by rw [gnone b (ha0 b hb)] at e; cases e)]
    exact e
  refine ⟨fun b => if b ∈ as then H2 b else G b, H2, as.map V.ref, I2, fun b => ?_, hl0, ?_, ?_, ?_⟩
  · show ((if b ∈ as then H2 b else G b) = G b ∧ _) ∨ (H b = none ∧ ∃ o, H2 b = some o ∧ ((if b ∈ as then H2 b else G b) = none ∨ (if b ∈ as then H2 b else G b) = some o))
    by_cases hb : b ∈ as
    · rw [if_pos hb]
      obtain ⟨vs, _, e⟩ := q b hb
      exact .inr ⟨ha0 b hb, _, e, .inr e⟩
    · rw [if_neg hb]
      by_cases hbl : b = l
      · subst hbl
        exact .inr ⟨hl0, .lst (as.map V.ref), by rw [g b hb, upd_same], .inl (gnone b hl0)⟩
      · exact .inl ⟨rfl, by rw [g b hb, upd_ne hbl]⟩
  · show (if l ∈ as then H2 l else G l) = none
    rw [if_neg hla]; exact gnone l hl0
  · rw [g l hla, upd_same]
  · refine RepL.iff.mpr ⟨by rw [List.length_map]; omega, fun j d v e1 e2 => ?_⟩
    rw [List.getElem?_map] at e2
    cases hj : as[j]? with
    | none => rw [hj] at e2; cases e2
    | some a =>
      rw [hj] at e2; cases e2
      obtain ⟨vs, ⟨i, k, b, x, hi, h1, rfl⟩, hH⟩ := q a (List.mem_of_getElem? hj)
      have eij : i = j := (List.getElem?_inj (List.getElem?_eq_some_iff.mp hi).1 nd).mp (hi.trans hj.symm)
      subst eij
      obtain ⟨kd, vd, k', b', x', rfl, h2, h3, h4⟩ := ri.at e1
      rw [h1] at h2; cases h2
      show Rep _ _ _ (.ref a)
      simp only [Rep]
      refine ⟨a, [.ref b, x], rfl, SqT.of ?_, RepL.two (Rep.mono sG _ _ h3) (Rep.mono sG _ _ h4)⟩
      show (if a ∈ as then H2 a else G a) = _
      rw [if_pos (List.mem_of_getElem? hj)]; exact hH
end
section
variable {prog : Program} {w : World} {A : Around} {E : Value → Shared → Prop} {s : Shared} {r d : Addr} {es : Array DictEntry} {ep : Nat}
theorem Made.rng {es : Array DictEntry} {lo : Addr} {h : Heap} {as : List Addr} (g : DT.Made es lo h as) : as.Nodup := List.Pairwise.imp (fun h => Nat.ne_of_lt h) g.rise
/-- list(d.items()) -/
theorem listI {Q : Value → Shared → Prop} (hh : A.handled = none) (hv : s.heap.IsItemsView r d) (hm : DT.Raw s.heap d es ep) (hn : es.size ≤ sizeLine)
    (hQ : ∀ h' tk acc c as, (∀ b o, s.heap.get? b = some o → h'.get? b = some o) → h'.get? s.heap.objs.size = some { cls := .type "list", dict := none, data := .seq acc c, slots := #[] } → as.length = es.size → DT.Made es s.heap.objs.size h' as →
      acc.toList = as.map Value.ref → Q (.ref s.heap.objs.size) { s with heap := h', toks := tk }) :
    wpAny (model prog w) A (call (.type "list") [.ref r]) Q E s := by
  refine PySem.callType_codes (Q₁ := fun obj s₁ => obj = .ref s.heap.objs.size ∧ s₁ = { s with heap := s.heap.push { cls := .type "list", data := .seq #[] } }) PySem.F.called_list (PySem.F.typeCall_list_1 _) PySem.F.entry_list_init
    (code_list_new _ ⟨rfl, rfl⟩) fun obj s₁ h₁ => ?_
  obtain ⟨rfl, rfl⟩ := h₁
  have hS : (s.heap.push { cls := .type "list", data := .seq #[] }).get? s.heap.objs.size = some { cls := .type "list", data := .seq #[] } := Heap.get?_push_size _ rfl
  have hr : r < s.heap.objs.size := let ⟨_, ho, _⟩ := hv; Heap.lt_size ho
  have hd : d < s.heap.objs.size := hm.lt
  refine ⟨⟨_, hS, rfl⟩, PySem.F.args_list_init_2 _ _, ?_⟩
  show wpAny _ _ (do let old ← Builtin.List.listItems (.ref s.heap.objs.size); Builtin.List.listUpdate (.ref s.heap.objs.size) (fun _ => #[]); letGo old.toList.reverse; Builtin.List.listExtendWith (.ref s.heap.objs.size) (.ref r) .none) _ _ _
  refine wpAny_bind ?_
  unfold Builtin.List.listItems
  refine wpAny_bind (wpAny_seqItems hS rfl (wpAny_pure ?_))
  show wpAny _ _ (updateSeq s.heap.objs.size (fun _ => #[]) >>= fun _ => letGo (#[] : Array Value).toList.reverse >>= fun _ => Builtin.List.listExtendWith (.ref s.heap.objs.size) (.ref r) .none) _ _ _
  refine wpAny_bind (wpAny_updateSeq hS rfl ?_)
  have hS₂ := Heap.get?_update_self (Obj.mapSeq (fun _ => (#[] : Array Value))) hS rfl
  have oth : ∀ b o, b ≠ s.heap.objs.size → s.heap.get? b = some o → ((s.heap.push { cls := .type "list", data := .seq #[] }).update s.heap.objs.size (Obj.mapSeq (fun _ => (#[] : Array Value)))).get? b = some o :=
    fun b o hb e => (Heap.get?_update_other _ _ (Ne.symm hb)).trans (Heap.get?_push_of_some _ e)
  refine wpAny_bind (wpAny_letGo ?_)
  refine DT.extI (A := A.in1) (R := wants (fun r s₂ => r = Value.none ∧ Q (Value.ref s.heap.objs.size) s₂) E) (s := { s with heap := (s.heap.push { cls := .type "list", data := .seq #[] }).update s.heap.objs.size (Obj.mapSeq (fun _ => (#[] : Array Value))) }) (es := es) (ep := ep) hh (let ⟨o, ho, x⟩ := hv; ⟨o, oth r o (Nat.ne_of_lt hr) ho, x⟩) (hm.at' fun o e => oth d o (Nat.ne_of_lt hd) e) s.heap.objs.size (Nat.ne_of_gt hr) (Nat.ne_of_lt hd) .none _ hS₂ (fun h' tk acc c as hk hS' hl hG hacc => ?_) hn
  exact ⟨rfl, hQ h' tk acc c as (fun b o e => hk b o (Nat.ne_of_lt (Heap.lt_size e)) (oth b o (Nat.ne_of_lt (Heap.lt_size e)) e)) hS' hl (hG.low (Nat.le_of_lt (Heap.lt_size hS₂))) hacc⟩
end
end DS
end

section
set_option Elab.async false
set_option linter.all false
set_option maxRecDepth 100000
set_option maxHeartbeats 1000000
namespace DS
open PySem PySem.Spec PyProof.Rows L2
section
variable {X : Cx} {e : Expr} {td : TE} {apos cpos : Pos} {fx : List Nat}
/-- d.items() as a value -/
def tItV (X : Cx) (td : TE) : TE := fun σ H Q => td σ H fun x H1 => ∃ a es o, x = .ref a ∧ (a == sysModules) = false ∧ H1 a = some (dctO X.prog X.w a es o) ∧ ∀ p, H1 p = none → Q (.ref p) (upd H1 p (L2.DX.itemsO p a))
theorem pe_itemsV (he : PE X e td) (hbase : attributeBase e "items" X.env (eval e X.env) = eval e X.env := by rfl) (hline : (apos.endLine == cpos.line) = true := by rfl) : PE X (.Call (.Attribute e "items" apos) [] [] cpos) (tItV X td) := by
  refine ⟨fun pins s σ H Q I h => ?_⟩
  refine wpAny_Call_method (T := "dict") (id := "dict.items") hbase rfl hline F.plainAttrs_dict F.slot_dict_items F.type_dict_items (thn (he.run pins s σ H _ I h) fun u s1 ⟨x, H1, I1, rx, d, es, o, ex, hs, hd, q⟩ => ?_)
  subst ex
  obtain rfl : u = Value.ref d := rx
  obtain ⟨ents, ep, xs, hm, ho', hdat, hen, hp, hsz⟩ := dct_raw (I1.hok d _ hd)
  refine ⟨hm.typeIs, fun b eb => ?_, ?_⟩
  · cases eb
    obtain ⟨o2, ho2, hx2, _⟩ := id hm
    exact ⟨o2, ho2, hx2.2.1⟩
  show wpAny _ _ (callWith cpos (.builtin "dict.items") [.ref d] [] []) _ X.xe s1
  refine method_meetsIn F.slot_dict_items F.entry_dict_items rfl (PySem.evalArgs_none ⟨rfl, hm.typeIs, F.args_dict_items_1 _, _, meets_dict_items_raw d hs, ⟨ents, ep, hm⟩, ?_⟩)
  have hf : H1 s1.heap.objs.size = none := I1.hok.fresh (Nat.le_refl _)
  exact ⟨.ref s1.heap.objs.size, upd H1 s1.heap.objs.size (L2.DX.itemsO s1.heap.objs.size d), I1.laid (t' := s1.toks) (fun b u e => Heap.get?_push_of_some _ e) (Nat.le_refl _) (L2.DX.itemsO_ok (Heap.get?_push_size _ rfl)), rfl, q _ hf⟩
/-- what is made of the items of a view -/
def rIt (X : Cx) (f : List D → Option (List D)) : List V → Hp → VK → Prop := fun vs H Q => ∃ p a es o G its rs, vs = [.ref p] ∧ H p = some (L2.DX.itemsO p a) ∧ H a = some (dctO X.prog X.w a es o) ∧ Same G H ∧ RepI (rc X) G its es ∧ its.length ≤ sizeLine ∧ f its = some rs ∧
  ∀ G' H' l ws, Grow G H G' H' → H l = none → G' l = none → H' l = some (.lst ws) → RepL (rc X) G' rs ws → Q (.ref l) H'
theorem itemsView {pins : List (Addr × Obj)} {σ : L2.St} {H : Hp} {s : Shared} (I : Inv X pins σ H s) {p a : Addr} (hp : H p = some (L2.DX.itemsO p a)) : s.heap.IsItemsView p a := (show ObjOk X.prog X.w H s.heap p (L2.DX.itemsO p a) from I.hok p _ hp).1
theorem cr_listIt (hc : X.calm = true) : CallR X (.type "list") (rIt X some) := by
  intro pins s σ H xs us Q I r ⟨p, a, es, o, G, its, rs, exs, hp, ha, hs, ri, hz, e, q⟩
  cases e
  subst exs
  obtain rfl := Vals.ref1 r
  obtain ⟨ents, ep, xs', hm, ho', hdat, hen, hpp, hsz⟩ := dct_raw (I.hok a _ ha)
  have lz : ents.size ≤ sizeLine := by rw [hsz, ri.length]; exact hz
  refine listI (es := ents) (ep := ep) (I.ok.hd hc) (itemsView I hp) hm lz fun h' tk acc c as hk hS hl hG hacc => ?_
  obtain ⟨G', H', ws, I', g, h1, h2, h3, h4⟩ := items_laid (tk := tk) (n := c) I hs ri hz hen hpp hk (Nat.le_refl _) (fun z => Nat.lt_irrefl _ (hG.above _ z)) (Made.rng hG) (fun b hb => Nat.le_of_lt (hG.above b hb)) hl hG.pairs (by rw [hS, ← hacc])
  exact ⟨.ref _, H', I', rfl, q G' H' _ ws g h1 h2 h3 h4⟩
theorem cr_sortIt (hc : X.calm = true) (hu : X.A.units + 64 < cLine) : CallR X (.builtin "sorted") (rIt X sortD) := by
  intro pins s σ H xs us Q I r ⟨p, a, es, o, G, its, rs, exs, hp, ha, hs, ri, hz, e, q⟩
  subst exs
  obtain rfl := Vals.ref1 r
  obtain ⟨ents, ep, xs', hm, ho', hdat, hen, hpp, hsz⟩ := dct_raw (I.hok a _ ha)
  have lz : ents.size ≤ sizeLine := by rw [hsz, ri.length]; exact hz
  refine DT.sortedI (es := ents) (ep := ep) (I.ok.hd hc) (itemsView I hp) hm lz fun h' tk as hk hlt hl hG => ?_
  obtain ⟨G', H', ws, I', g, h1, h2, h3, h4⟩ := items_laid (s := s) (h' := h'.push { cls := .type "list", data := .seq (as.map Value.ref).toArray }) (tk := tk) (n := 0) (l := h'.objs.size) I hs ri hz hen hpp (fun b o eb => Heap.get?_push_of_some _ (hk b o eb)) (Nat.le_of_lt hlt)
    (fun z => Nat.lt_irrefl _ (hG.there z)) (Made.rng hG) (fun b hb => Nat.le_of_lt (hG.above b hb)) hl (fun j b hj => by
      obtain ⟨en, e1, e2⟩ := hG.pairs j b hj
      exact ⟨en, e1, Heap.get?_push_of_some _ e2⟩) (Heap.get?_push_size _ rfl)
  have sG : Same G' H' := fun b ob eb => by
    rcases g b with ⟨e1, e2⟩ | ⟨_, ob2, e2, e3⟩
    · rw [e1] at eb; rw [e2]; exact hs b ob eb
    · rcases e3 with e3 | e3
      · rw [e3] at eb; cases eb
      · rw [e3] at eb; cases eb; exact e2
  refine wpAny_mono (sort_run (A := X.A.in1) I' sG h3 h2 h4 e (by show X.A.units + 1 + 1 + 32 < cLine; omega)) (fun _ s2 ⟨ws', I2, r2⟩ => ?_) fun _ _ z => z
  refine ⟨.ref h'.objs.size, _, I2, rfl, q G' _ h'.objs.size ws' (fun b => ?_) h1 h2 upd_same r2⟩
  by_cases hb : b = h'.objs.size
  · rw [hb]; exact .inr ⟨h1, _, upd_same, .inl h2⟩
  · rcases g b with ⟨e1, e2⟩ | ⟨e0, ob, e2, e3⟩
    · exact .inl ⟨e1, by rw [upd_ne hb]; exact e2⟩
    · exact .inr ⟨e0, ob, by rw [upd_ne hb]; exact e2, e3⟩
def dIts (f : List D → Option (List D)) (t : TF) : TV := fun sd => (t sd).bind fun p => match p.1 with
  | .dct its => (f its).bind fun rs => some (.ow (.lst rs), p.2)
  | _ => none
theorem its_read {f : List D → Option (List D)} {t : TF} {σ : L2.St} {H : Hp} {Q : VK} (h : liftV (rc X) (dIts f t) σ H Q) : (tItV X (liftF (rc X) t)) σ H fun x H1 => rIt X f [x] H1 Q := by
  obtain ⟨G, T, sd, r, sd', S, e1, k⟩ := h
  obtain ⟨p, hp, e1⟩ := bindS e1
  refine ⟨G, T, sd, p.1, p.2, S, hp, fun v G1 H1 s1 S1 r1 => ?_⟩
  split at e1
  · rename_i its hd
    obtain ⟨rs, hrs, e1⟩ := bindS e1
    cases e1
    rw [hd] at r1
    simp only [Rep] at r1
    obtain ⟨a, es, rfl, da, ri⟩ := r1
    obtain ⟨o, hat⟩ := da.at_
    have hat1 := S1.same _ _ hat
    refine ⟨a, es, o, rfl, da.sys, hat1, fun q hq => ?_⟩
    have S2 := S1.more (o := L2.DX.itemsO q a) hq
    refine ⟨q, a, es, o, G1, its, rs, rfl, upd_same, by rw [upd_ne (ne_of_none hat1 hq)]; exact hat1, S2.same, ri, by rw [← ri.length]; exact da.len, hrs, fun G' H' l ws g h1 h2 h3 h4 => ?_⟩
    obtain ⟨sG, sH, S3⟩ := S2.grow g
    exact k _ G' H' (Same.tr s1 sG) S3 ⟨l, rfl, h2, Same.nn S2.sameT h1, ws, h3, h4⟩ (S2.fresh_new h1)
  · cases e1
theorem dv_listItems {t : TF} {p pos : Pos} (hc : X.calm = true) (he : DF X e t) (hg : Gl X "list") (hm : X.mg "list" = none) (hbase : attributeBase e "items" X.env (eval e X.env) = eval e X.env := by rfl) (hline : (apos.endLine == cpos.line) = true := by rfl)
    (hs : starEach [.Call (.Attribute e "items" apos) [] [] cpos] X.env = (false, eval (.Call (.Attribute e "items" apos) [] [] cpos) X.env) :: starEach [] X.env := by rfl) (hpl : (backTo pos (starEach [] X.env)).any (·.1) = false := by rfl) :
    DVE X (.Call (.Name "list" p) [.Call (.Attribute e "items" apos) [] [] cpos] [] pos) (dIts some t) :=
  PEi (pe_callTy (cr_listIt hc) hg hm rfl (pa_cons (pe_itemsV he hbase hline) pa_nil hs) (by decide) (by decide) hs hpl) fun σ H Q h => its_read h
theorem dv_sortItems {t : TF} {p pos : Pos} (hc : X.calm = true) (hu : X.A.units + 64 < cLine) (he : DF X e t) (hg : Gl X "sorted") (hm : X.mg "sorted" = none) (hbase : attributeBase e "items" X.env (eval e X.env) = eval e X.env := by rfl) (hline : (apos.endLine == cpos.line) = true := by rfl)
    (hs : starEach [.Call (.Attribute e "items" apos) [] [] cpos] X.env = (false, eval (.Call (.Attribute e "items" apos) [] [] cpos) X.env) :: starEach [] X.env := by rfl) (hpl : (backTo pos (starEach [] X.env)).any (·.1) = false := by rfl) :
    DVE X (.Call (.Name "sorted" p) [.Call (.Attribute e "items" apos) [] [] cpos] [] pos) (dIts sortD t) :=
  PEi (pe_callB (cr_sortIt hc hu) hg hm rfl (pa_cons (pe_itemsV he hbase hline) pa_nil hs) (by decide) (by decide) hs hpl) fun σ H Q h => its_read h
end
end DS
end

section
set_option Elab.async false
set_option linter.all false
set_option maxRecDepth 100000
set_option maxHeartbeats 1000000
namespace DS
open PySem PySem.Spec PyProof.Rows L2
section
variable {prog : Program} {w : World} {K : Type} [DecidableEq K] {knd : HeapKind prog w K} {A : Around} {E : Value → Shared → Prop} {s : Shared}
inductive HitsH (prog : Program) (w : World) (A : Around) (s : Shared) (kb : List (K × Addr × Value)) : List (K × Addr × Value) → Bool → Prop
  | nil : HitsH prog w A s kb [] true
  | miss {k : K} {p : Addr × Value} {r : List (K × Addr × Value)} : atKey kb k = none → HitsH prog w A s kb ((k, p) :: r) false
  | hit {k : K} {p q : Addr × Value} {r : List (K × Addr × Value)} {e b : Bool} : atKey kb k = some q → SeqAt.EqIn prog w A s p.2 q.2 e → HitsH prog w A s kb r b → HitsH prog w A s kb ((k, p) :: r) (e && b)
theorem HitsH.inv {kb : List (K × Addr × Value)} {k : K} {p : Addr × Value} {r : List (K × Addr × Value)} {b : Bool} (h : HitsH prog w A s kb ((k, p) :: r) b) :
    (atKey kb k = none ∧ b = false) ∨ ∃ q e b', atKey kb k = some q ∧ SeqAt.EqIn prog w A s p.2 q.2 e ∧ HitsH prog w A s kb r b' ∧ b = (e && b') := by
  cases h with
  | miss hn => exact .inl ⟨hn, rfl⟩
  | hit hy he hr => exact .inr ⟨_, _, _, hy, he, hr, rfl⟩
theorem samePairsH {nm : String} {a b : Addr} {ka kb : List (K × Addr × Value)} {r : Bool} {Q : Bool → Shared → Prop} (hu : knd.room A) (ha : (a == sysModules) = false) (hb : (b == sysModules) = false)
    (da : s.heap.DictOfH knd a ka) (db : s.heap.DictOfH knd b kb) (hits : ka.length = kb.length → HitsH prog w A s kb ka r) (h : Q (ka.length == kb.length && r) s) :
    wpAny (model prog w) A (Builtin.Dict.samePairs nm a b) Q E s := by
  obtain ⟨oa, es, ep, hoa, _, hda, hea, hisa, _⟩ := da
  obtain ⟨ob, es', ep', hob, _, hdb, heb, hisb, hnb⟩ := db
  have hla : ka.length = es.size := (size_of_entries hea).symm
  have hlb : kb.length = es'.size := (size_of_entries heb).symm
  rw [hla, hlb] at h
  unfold Builtin.Dict.samePairs Builtin.Dict.showsAll
  rw [if_neg (show ¬ (a == sysModules) = true by rw [ha]; exact Bool.false_ne_true), if_neg (show ¬ (b == sysModules) = true by rw [hb]; exact Bool.false_ne_true)]
  refine wpAny_bind (wpAny_pure (wpAny_bind (wpAny_pure ?_)))
  refine wpAny_bind (wpAny_dictEntries hoa hda ?_)
  dsimp only
  refine wpAny_bind (wpAny_dictEntries hob hdb ?_)
  by_cases hsz : es.size = es'.size
  case neg =>
    rw [if_pos (by simpa using hsz)]
    have hbf : (es.size == es'.size) = false := by simpa using hsz
    rw [hbf, Bool.false_and] at h
    exact wpAny_bind (wpAny_rule (wpAny_pure h))
  case pos =>
    have h' : Q r s := by simpa [hsz] using h
    have hits' := hits (by rw [hla, hlb]; exact hsz)
    rw [if_neg (by rw [hsz]; simp)]
    refine wpAny_bind (wpAny_dictEpoch hoa hda ?_)
    refine wpAny_bind ?_
    rw [Std.Legacy.Range.forIn_eq_forIn_range']
    simp only [Std.Legacy.Range.size, Nat.sub_zero, Nat.add_sub_cancel, Nat.div_one]
    refine wpAny_forIn_list _
      (fun rest q s' => s' = s ∧ q = (none, ()) ∧ ∃ i, rest = List.range' i (es.size - i) ∧ i ≤ es.size ∧ HitsH prog w A s kb (ka.drop i) r)
      _ ?_ ?_ _ _ ⟨rfl, rfl, 0, by simp, Nat.zero_le _, hits'⟩
    · rintro x rest q s' ⟨rfl, rfl, i, hr, hi, hpre⟩
      have hlt : i < es.size := by
        rcases Nat.lt_or_ge i es.size with h | h
        · exact h
        · rw [Nat.sub_eq_zero_of_le h] at hr; simp at hr
      obtain ⟨rfl, hrest⟩ : x = i ∧ rest = List.range' (i + 1) (es.size - (i + 1)) := by
        have e : es.size - i = (es.size - (i + 1)) + 1 := by omega
        rw [e, List.range'_succ] at hr
        injection hr with h1 h2
        exact ⟨h1, h2⟩
      refine wpAny_bind (wpAny_dictEntries hoa hda ?_)
      have hlt' : x < ka.length := by rw [hla]; exact hlt
      obtain ⟨k, p, hkv⟩ : ∃ k p, ka[x] = (k, p) := ⟨_, _, rfl⟩
      have hkx : ka[x]? = some (k, p) := by rw [List.getElem?_eq_getElem hlt', hkv]
      have hdrop : ka.drop x = (k, p) :: ka.drop (x + 1) := by rw [← hkv]; exact List.drop_eq_getElem_cons hlt'
      have hex : es[x]? = some (entryOfKey knd (k, p)) := by rw [entry_at hea x, hkx]; rfl
      rw [hex]
      rw [hdrop] at hpre
      have hkey : knd.is s'.heap k p.1 := hisa (k, p) (List.mem_of_getElem? hkx)
      show wpAny _ _ (holding [(entryOfKey knd (k, p)).key, (entryOfKey knd (k, p)).val] _ >>= _) _ _ _
      refine wpAny_bind (wpAny_holding ?_)
      show wpAny _ _ (dictFind b (.ref p.1) (knd.hash k) >>= _) _ _ _
      refine wpAny_bind (wpAny_dictFind_heap hu hkey hob hdb heb hisb hnb (fun hno => ?_) fun j q hj => ?_)
      · have hn : atKey kb k = none := atKey_none_of_get hno
        rcases hpre.inv with ⟨_, er⟩ | ⟨y, _, _, hy, _⟩
        · rw [er] at h'
          refine wpAny_pure ?_
          show wpAny _ _ (if (!false) = true then _ else _) _ _ _
          rw [if_pos (by decide)]
          exact wpAny_pure (wpAny_pure h')
        · rw [hn] at hy; exact nomatch hy
      · have hv' : atKey kb k = some q := atKey_of_get hnb hj
        have hej : es'[j]? = some (entryOfKey knd (k, q)) := by rw [entry_at heb j, hj]; rfl
        refine wpAny_bind (wpAny_dictEntries hob hdb ?_)
        rw [hej]
        rcases hpre.inv with ⟨hn, _⟩ | ⟨y, e, b', hy, he, hrr, er⟩
        · rw [hv'] at hn; exact nomatch hn
        · have ey : q = y := Option.some.inj (hv'.symm.trans hy)
          rw [← ey] at he
          show wpAny _ _ (holding [q.2] (eqBool p.2 q.2)) _ _ _
          refine wpAny_holding (he _ _ ?_)
          cases e with
          | false =>
            rw [er, Bool.false_and] at h'
            show wpAny _ _ (if (!false) = true then _ else _) _ _ _
            rw [if_pos (by decide)]
            exact wpAny_pure (wpAny_pure h')
          | true =>
            rw [Bool.true_and] at er
            rw [← er] at hrr
            show wpAny _ _ (if (!true) = true then _ else _) _ _ _
            rw [if_neg (by decide)]
            refine wpAny_bind (wpAny_dictEpoch hoa hda ?_)
            rw [if_neg (by simp)]
            exact wpAny_pure ⟨rfl, rfl, x + 1, hrest, hlt, hrr⟩
    · rintro q s' ⟨rfl, rfl, i, hr, hi, hpre⟩
      have hin : i = es.size := by
        rcases Nat.lt_or_ge i es.size with h | h
        · have e : es.size - i = (es.size - (i + 1)) + 1 := by omega
          rw [e, List.range'_succ] at hr; exact nomatch hr
        · exact Nat.le_antisymm hi h
      refine wpAny_pure ?_
      rw [hin, ← hla, List.drop_length] at hpre
      cases hpre
      exact h'
theorem eq_dictsH {a b : Addr} {ka kb : List (K × Addr × Value)} {r : Bool} {Q : Value → Shared → Prop} (hu' : knd.room A.in1) (ha : (a == sysModules) = false) (hb : (b == sysModules) = false)
    (da : s.heap.DictOfH knd a ka) (db : s.heap.DictOfH knd b kb) (hu : A.units < cLine) (hits : ka.length = kb.length → HitsH prog w A.in1 s kb ka r) (h : Q (.bool (ka.length == kb.length && r)) s) :
    wpAny (model prog w) A (compareOp .Eq (.ref a) (.ref b)) Q E s := by
  refine wpAny_richCompare_same_room (op := .Eq) da.typeIs db.typeIs PySem.F.slot_dict_eq (wpAny_call_entry PySem.F.slot_dict_eq da.typeIs PySem.F.entry_dict_eq ?_ (PySem.F.args_dict_eq_2 _ _)) hu
  show wpAny _ _ (Builtin.Dict.dictSlotArgs "__eq__" ⟨[.ref a, .ref b], []⟩ >>= _) _ _ s
  refine wpAny_bind ?_
  unfold Builtin.Dict.dictSlotArgs
  refine wpAny_bind (wpAny_notOrdered_dict da.typeIs ?_)
  show wpAny _ _ (pure (Value.ref a, Value.ref b)) _ _ s
  refine wpAny_pure ?_
  refine wpAny_bind (wpAny_isInstance (T := "dict") db.typeIs PySem.F.sub_dict_dict ?_)
  simp only [Bool.not_true, Bool.false_eq_true, if_false]
  refine wpAny_bind (wpAny_pure (wpAny_bind (wpAny_pure ?_)))
  refine wpAny_bind (samePairsH hu' ha hb da db hits ?_)
  refine wpAny_pure ⟨_, rfl, ?_, ?_⟩
  · exact fun x => nomatch x
  · simpa using h
theorem ne_dictsH {a b : Addr} {ka kb : List (K × Addr × Value)} {r : Bool} {Q : Value → Shared → Prop} (hu' : knd.room A.in1) (ha : (a == sysModules) = false) (hb : (b == sysModules) = false)
    (da : s.heap.DictOfH knd a ka) (db : s.heap.DictOfH knd b kb) (hu : A.units < cLine) (hits : ka.length = kb.length → HitsH prog w A.in1 s kb ka r) (h : Q (.bool (!(ka.length == kb.length && r))) s) :
    wpAny (model prog w) A (compareOp .NotEq (.ref a) (.ref b)) Q E s := by
  refine wpAny_richCompare_same_room (op := .NotEq) da.typeIs db.typeIs PySem.F.slot_dict_ne (wpAny_call_entry PySem.F.slot_dict_ne da.typeIs PySem.F.entry_dict_ne ?_ (PySem.F.args_dict_ne_2 _ _)) hu
  show wpAny _ _ (Builtin.Dict.dictSlotArgs "__ne__" ⟨[.ref a, .ref b], []⟩ >>= _) _ _ s
  refine wpAny_bind ?_
  unfold Builtin.Dict.dictSlotArgs
  refine wpAny_bind (wpAny_notOrdered_dict da.typeIs ?_)
  show wpAny _ _ (pure (Value.ref a, Value.ref b)) _ _ s
  refine wpAny_pure ?_
  refine wpAny_bind (wpAny_isInstance (T := "dict") db.typeIs PySem.F.sub_dict_dict ?_)
  simp only [Bool.not_true, Bool.false_eq_true, if_false]
  refine wpAny_bind (wpAny_pure (wpAny_bind (wpAny_pure ?_)))
  refine wpAny_bind (samePairsH hu' ha hb da db hits ?_)
  refine wpAny_pure ⟨_, rfl, ?_, ?_⟩
  · exact fun x => nomatch x
  · simpa using h
end
section
variable {X : Cx} {fx : List Nat}
def dEqv (x y : D) : Option Bool := match D.pd x, D.pd y with
  | some p, some q => if SeqAt.shaped p = true ∧ SeqAt.shaped q = true then some (PyData.eqv p q) else none
  | _, _ => none
def eqItems (b : List D) : List D → Option Bool
  | [] => some true
  | .tup [kd, vd] :: r => (D.nk kd).bind fun k => match dfind b k with
    | none => some false
    | some w => (dEqv vd w).bind fun e => (eqItems b r).bind fun q => some (e && q)
  | _ :: _ => none
def eqDct (a b : List D) : Option Bool := if a.length = b.length then eqItems b a else some false
theorem hits_of {pins : List (Addr × Obj)} {σ : L2.St} {G H : Hp} {s : Shared} {A : Around} (I : Inv X pins σ H s) (hs : Same G H) (hu : A.units + 64 < cLine) {eb : List Ent} {xb : List (NestedKey × Addr × Value)} {ib : List D} (rb : RepI (rc X) G ib eb) (pb : Paired EntRel eb xb) :
    ∀ {ia : List D} {ea : List Ent} {xa : List (NestedKey × Addr × Value)} {r : Bool}, RepI (rc X) G ia ea → Paired EntRel ea xa → eqItems ib ia = some r → HitsH X.prog X.w A s xb xa r
  | [], ea, xa, r, ra, pa, e => by
    simp only [RepI] at ra; subst ra
    cases pa; cases e; exact .nil
  | d :: ia, ea, xa, r, ra, pa, e => by
    obtain ⟨kd, vd, k, b, x, r', rfl, rfl, h1, h2, h3, h4, h5⟩ := ra.uncons
    cases pa with
    | @cons _ y _ xr q t =>
      obtain ⟨ky, py⟩ := y
      obtain ⟨q1, q2, q3⟩ := q
      have q1 : k = ky := q1
      subst q1
      simp only [eqItems, h1, Option.bind_some] at e
      have f1 := rb.find (k := k)
      have f2 := ents_find (k := k) pb
      split at e
      · rename_i hd
        cases e
        rw [hd] at f1
        have f1 : efind eb k = none := f1
        rw [f1] at f2
        exact .miss f2
      · rename_i wd hd
        rw [hd] at f1
        obtain ⟨v, g1, g2⟩ := f1
        rw [g1] at f2
        obtain ⟨p, g3, g4⟩ := f2
        obtain ⟨e0, he0, e⟩ := bindS e
        obtain ⟨q0, hq0, e⟩ := bindS e
        cases e
        refine .hit g3 ?_ (hits_of I hs hu rb pb h5 t hq0)
        unfold dEqv at he0
        split at he0
        · rename_i p1 p2 hp1 hp2
          obtain ⟨⟨s1, s2⟩, e2⟩ := ite_some he0
          obtain ⟨as, c1, _⟩ := Rep.rds I hs vd x _ p1 h4 hp1 q3
          obtain ⟨bs, c2, _⟩ := Rep.rds I hs wd v _ p2 g2 hp2 g4
          rw [← e2]
          exact (SeqAt.eqAt_reads p1 p2 A s _ _ _ _ c1 c2 (SeqAt.canLay_of_shaped s1) (SeqAt.canLay_of_shaped s2) (SeqAt.room_of_shaped s1 hu)).inModel X.prog X.w
        · cases he0
def eqDP (neg : Bool) : F2 := fun x y => match x, y with
  | .dct a, .dct b => (eqDct a b).bind fun r => some (.bl (xor neg r))
  | _, _ => none
theorem Rep.dc {c : RC} {H : Hp} {its : List D} {v : V} (h : Rep c H (.dct its) v) : ∃ a es, v = .ref a ∧ DA c H a es ∧ RepI c H its es := by simpa only [Rep] using h
theorem eqDct_len {a b : List D} {r : Bool} (e : eqDct a b = some r) : ∃ r', (a.length = b.length → eqItems b a = some r') ∧ r = (a.length == b.length && r') := by
  unfold eqDct at e
  split at e
  · rename_i h; exact ⟨r, fun _ => e, by simp [h]⟩
  · rename_i h; cases e; exact ⟨false, fun z => absurd z h, by simp⟩
theorem op_eqDP (hu : X.A.units + 80 < cLine) : OpR X (compareOp .Eq) (liftOp (rc X) (eqDP false)) := by
  intro pins s σ H v u vv uu Q I rv ru ⟨G, T, sd, σ1, x, y, d, S, rx, ry, e, k⟩
  unfold eqDP at e
  split at e
  · rename_i a b
    obtain ⟨r, hr, e⟩ := bindS e
    cases e
    obtain ⟨pa, ea, rfl, da, ra⟩ := rx.dc
    obtain ⟨pb, eb, rfl, db, rb⟩ := ry.dc
    cases rv; cases ru
    obtain ⟨xa, hxa, ppa⟩ := (da.mono S.same).dict I S.same ra
    obtain ⟨xb, hxb, ppb⟩ := (db.mono S.same).dict I S.same rb
    have la : xa.length = a.length := by rw [← ppa.length, ra.length]
    have lb : xb.length = b.length := by rw [← ppb.length, rb.length]
    obtain ⟨r', h1, h2⟩ := eqDct_len hr
    refine eq_dictsH (knd := nestedKind X.prog X.w) (r := r') (by show X.A.units + 1 + 8 < cLine; omega) da.sys db.sys hxa hxb (by omega) (fun hl => hits_of I S.same (by show X.A.units + 1 + 64 < cLine; omega) rb ppb ra ppa (h1 (by omega))) ⟨.bl r, H, I, ?_, ?_⟩
    · rw [la, lb, ← h2]; rfl
    · have := k (.bl r) G H Same.refl S (by rw [Bool.false_xor]; exact Rep.bl ..)
      exact this
  · cases e
theorem op_neDP (hu : X.A.units + 80 < cLine) : OpR X (compareOp .NotEq) (liftOp (rc X) (eqDP true)) := by
  intro pins s σ H v u vv uu Q I rv ru ⟨G, T, sd, σ1, x, y, d, S, rx, ry, e, k⟩
  unfold eqDP at e
  split at e
  · rename_i a b
    obtain ⟨r, hr, e⟩ := bindS e
    cases e
    obtain ⟨pa, ea, rfl, da, ra⟩ := rx.dc
    obtain ⟨pb, eb, rfl, db, rb⟩ := ry.dc
    cases rv; cases ru
    obtain ⟨xa, hxa, ppa⟩ := (da.mono S.same).dict I S.same ra
    obtain ⟨xb, hxb, ppb⟩ := (db.mono S.same).dict I S.same rb
    have la : xa.length = a.length := by rw [← ppa.length, ra.length]
    have lb : xb.length = b.length := by rw [← ppb.length, rb.length]
    obtain ⟨r', h1, h2⟩ := eqDct_len hr
    refine ne_dictsH (knd := nestedKind X.prog X.w) (r := r') (by show X.A.units + 1 + 8 < cLine; omega) da.sys db.sys hxa hxb (by omega) (fun hl => hits_of I S.same (by show X.A.units + 1 + 64 < cLine; omega) rb ppb ra ppa (h1 (by omega))) ⟨.bl (!r), H, I, ?_, ?_⟩
    · rw [la, lb, ← h2]; rfl
    · have := k (.bl (!r)) G H Same.refl S (by rw [Bool.true_xor]; exact Rep.bl ..)
      exact this
  · cases e
end
end DS
end

section
set_option Elab.async false
set_option linter.all false
set_option maxRecDepth 100000
set_option maxHeartbeats 1000000
namespace DS
open PySem PySem.Spec PyProof.Rows L2
theorem PKi {X : Cx} {kws : List Keyword} {t t' : TA} (h : PK X kws t) (i : ∀ σ H Q, t' σ H Q → t σ H Q) : PK X kws t' := ⟨fun pos pins s σ H Q I q => h.run pos pins s σ H Q I (i σ H Q q)⟩
def pick {α : Type} (pm : List Nat) (zs : List α) : List α := pm.filterMap fun i => zs[i]?
theorem pick_vals {pm : List Nat} {zs : List V} {ws : List Value} (r : Vals zs ws) : Vals (pick pm zs) (pick pm ws) := by
  induction pm with
  | nil => exact .nil
  | cons i pm ih =>
    unfold pick at ih ⊢
    rw [List.filterMap_cons, List.filterMap_cons]
    cases e : zs[i]? with
    | none =>
      have : ws[i]? = none := by
        rw [List.getElem?_eq_none_iff] at e ⊢
        rw [← r.length]; exact e
      rw [this]; exact ih
    | some v =>
      obtain ⟨u, hu, ru⟩ := r.get e
      rw [hu]; exact .cons ru ih
section
variable {X : Cx} {fx : List Nat}
abbrev DK (X : Cx) (kws : List Keyword) (t : TAr) : Prop := PK X kws (liftAr (rc X) t)
theorem dk_nil : DK X [] aNil := PKi pk_nil fun σ H Q ⟨G, T, sd, ds, sd', S, e, k⟩ => by
  cases e; exact k [] G H Same.refl S ⟨.nil, List.nodup_nil⟩
/-- the keyword's value: frozen data -/
theorem dk_val {nm : Option Str} {kpos : Pos} {e : Expr} {kws : List Keyword} {t : TF} {r : TAr} (h : DF X e t) (hr : DK X kws r) : DK X (⟨nm, e, kpos⟩ :: kws) (aVal (ofF t) r) :=
  PKi (pk_cons h hr) fun σ H Q ⟨G, T, sd, ds, sd', S, e1, k⟩ => by
    obtain ⟨⟨r0, sd1⟩, hp, e1⟩ := bindS e1
    obtain ⟨p, hp', e2⟩ := bindS hp
    cases e2
    obtain ⟨q, hq, e1⟩ := bindS e1
    cases e1
    exact ⟨G, T, sd, p.1, p.2, S, hp', fun v G1 H1 s1 S1 r1 => ⟨G1, T, p.2, q.1, q.2, S1, hq, fun vs G2 H2 s2 S2 a2 => k (v :: vs) G2 H2 (Same.tr s1 s2) S2 ⟨.cons ⟨Rep.mono s2 _ _ r1, True.intro⟩ a2.all, by simpa [roots] using a2.nd⟩⟩⟩
theorem dk_slot {nm : Option Str} {kpos : Pos} {i : Nat} {e : Expr} {kws : List Keyword} {r : TAr} (h : PE X e (tVar i)) (hr : DK X kws r) : DK X (⟨nm, e, kpos⟩ :: kws) (aSlot i r) :=
  PKi (pk_cons h hr) fun σ H Q ⟨G, T, sd, ds, sd', S, e1, k⟩ => by
    unfold aSlot at e1
    split at e1
    · rename_i dv0 h0
      obtain ⟨v, hv, _⟩ := S.slots i _ h0
      obtain ⟨q, hq, e1⟩ := bindS e1
      refine ⟨v, hv, G, T, sd, q.1, q.2, S, hq, fun vs G2 H2 s2 S2 a2 => ?_⟩
      split at e1
      · rename_i dv h2
        cases e1
        exact k (v :: vs) G2 H2 s2 S2 ⟨.cons ⟨hv, dv, h2⟩ a2.all, by simpa [roots] using a2.nd⟩
      · cases e1
    · cases e1
def noRoot : AV → Bool
  | .v (.ow _) => false
  | _ => true
theorem roots_none : ∀ {as : List AV} {vs : List V}, as.all noRoot = true → roots as vs = []
  | [], vs, _ => by simp [roots]
  | .v (.fz d) :: as, [], h => by simp [roots]
  | .s i :: as, [], h => by simp [roots]
  | .v (.ow d) :: as, vs, h => by simp [noRoot] at h
  | .v (.fz d) :: as, v :: vs, h => by simp only [roots]; exact roots_none (by simpa [noRoot] using h)
  | .s i :: as, v :: vs, h => by simp only [roots]; exact roots_none (by simpa [noRoot] using h)
theorem pick_root {as : List AV} (h : as.all noRoot = true) (pm : List Nat) : (pick pm as).all noRoot = true := by
  rw [List.all_eq_true] at h ⊢
  intro x hx
  obtain ⟨i, _, hi⟩ := List.mem_filterMap.mp hx
  exact h x (List.mem_of_getElem? hi)
theorem pick_paired {α β : Type} {R : α → β → Prop} {xs : List α} {ys : List β} (h : Paired R xs ys) : ∀ pm : List Nat, Paired R (pick pm xs) (pick pm ys)
  | [] => .nil
  | i :: pm => by
    have ih := pick_paired h pm
    unfold pick at ih ⊢
    rw [List.filterMap_cons, List.filterMap_cons]
    have hl := h.length
    cases e : xs[i]? with
    | none =>
      have : ys[i]? = none := by
        rw [List.getElem?_eq_none_iff] at e ⊢
        omega
      rw [this]; exact ih
    | some x =>
      have hi : i < ys.length := by
        have := (List.getElem?_eq_some_iff.mp e).1
        omega
      have e2 : ys[i]? = some ys[i] := by simp [hi]
      rw [e2]
      exact .cons (Paired.at2 h e e2) ih
def tCall0K (n : Nat) (sp : Sp) (pm : List Nat) (E : XK) (tk : TA) : TE := fun σ H Q => tk σ H fun zs H2 => zs.length = n ∧ sp (pick pm zs) H2 Q E
theorem pe_call0K {CX : CXT} {k : Nat} {f : Addr} {fd : FuncData} {ps ks : List Str} {sp : Sp} {E : XK} {x : Str} {p pos : Pos} {kws : List Keyword} {tk : TA} {pm : List Nat} (F : FnOk X.prog X.w X.K X.mg X.base CX k f fd ps sp) (hr : Room k X.A) (hg : Gl X x) (hm : X.mg x = some (.ref f)) (hk : PySem.W.keepIn X.K (.ref f) = true) (hb : KBn X.K fd ps 0 ks (fun _ ws => pick pm ws) (fun _ zs => pick pm zs)) (hx : Passes CX X E)
    (hkw : PK X kws tk) (hall : (backToKw pos (keywordEach kws X.env)).all (·.1.isSome) = true := by rfl) (hks : (backToKw pos (keywordEach kws X.env)).filterMap (·.1) = ks := by rfl)
    (hdb : (x == ("__debug__" : Str)) = false := by decide) (hpl : ((backTo pos (starEach [] X.env)).any (·.1) || (backToKw pos (keywordEach kws X.env)).any (·.1.isNone)) = false := by rfl) :
    PE X (.Call (.Name x p) [] kws pos) (tCall0K ks.length sp pm E tk) := by
  refine ⟨fun pins s σ H Q I h => ?_⟩
  refine wpAny_Call_Name_kw (ld_glob I hg hm ?_ hdb)
  refine PySem.W.callWith_KW0 (h₀ := X.base) I.ok.mod.kin hk hall (thn (hkw.run pos pins s σ H _ I h) fun ws s2 ⟨zs, H2, I2, rz, l2, q2⟩ => ⟨I2.kIn, ?_⟩) hpl
  rw [hks]
  exact run_fnN (us := []) (vs := []) F hr hb hx I2 .nil rz rfl l2 q2
def dCallK (n : Nat) (f : Sem) (pm : List Nat) (t : TAr) : TV := fun sd => (t sd).bind fun p => if p.1.all noRoot = true ∧ p.1.length = n then runSem f (pick pm p.1) p.2 else none
theorem dv_call0K {k : Nat} {f : Addr} {fd : FuncData} {ps ks : List Str} {sm : Sem} {x : Str} {p pos : Pos} {kws : List Keyword} {t : TAr} (pm : List Nat) (F : FnOk X.prog X.w X.K X.mg X.base CX0 k f fd ps (spD (rc X) sm)) (hr : Room k X.A) (hg : Gl X x) (hm : X.mg x = some (.ref f)) (hk : PySem.W.keepIn X.K (.ref f) = true) (hb : KBn X.K fd ps 0 ks (fun _ ws => pick pm ws) (fun _ zs => pick pm zs))
    (ha : DK X kws t) (hall : (backToKw pos (keywordEach kws X.env)).all (·.1.isSome) = true := by rfl) (hks : (backToKw pos (keywordEach kws X.env)).filterMap (·.1) = ks := by rfl)
    (hdb : (x == ("__debug__" : Str)) = false := by decide) (hpl : ((backTo pos (starEach [] X.env)).any (·.1) || (backToKw pos (keywordEach kws X.env)).any (·.1.isNone)) = false := by rfl) :
    DVE X (.Call (.Name x p) [] kws pos) (dCallK ks.length sm pm t) :=
  PEi (pe_call0K F hr hg hm hk hb (E := E0) pass0 ha hall hks hdb hpl) fun σ H Q ⟨G, T, sd, r, sd', S, e1, kk⟩ => by
    obtain ⟨q, hq, e1⟩ := bindS e1
    split at e1
    · rename_i hh
      refine ⟨G, T, sd, q.1, q.2, S, hq, fun vs G1 H1 s1 S1 A1 => ⟨by rw [← A1.all.length]; exact hh.2, ?_⟩⟩
      refine call_ok (f := sm) (as := pick pm q.1) S1 ⟨pick_paired A1.all pm, ?_⟩ e1 fun v G2 H2 s2 S2 r2 f2 => kk v G2 H2 (Same.tr s1 s2) S2 r2 f2
      rw [roots_none (pick_root hh.1 pm)]; exact List.nodup_nil
    · cases e1
/-- how a def's arguments bind by name -/
theorem kbn_of {K : PySem.W.Frag} {x qual : Str} {st : Stmt} {f : Addr} {fd : FuncData} {ps ks : List Str} (pm : List Nat) (F : L2.Fun K x qual st f fd)
    (h : ∀ (kV doc pm0 : Value) (an : Option Addr) (cdv ct : Value) (ws : List Value), ws.length = ks.length → bindArgs (PySem.W.fnOf x qual (defArgs st) (defBody st) (defScope st) .none kV doc pm0 an cdv ct) ⟨[], ks.zip ws⟩ = pure (ps.zip (pick pm ws))) : KBn K fd ps 0 ks (fun _ ws => pick pm ws) (fun _ zs => pick pm zs) := by
  obtain ⟨oc, od, kV, doc, pm0, an, cdv, ct, osl, rfl, lk, hcd⟩ := F.ex
  refine ⟨fun s us ws _ l1 l2 => ?_, fun r1 r2 => pick_vals r2⟩
  obtain rfl := List.eq_nil_of_length_eq_zero l1
  exact .of_eq (h kV doc pm0 an cdv ct ws l2)
/-! ### -e -/
def dNeg (t : TF) : TF := fun sd => (t sd).bind fun p => match p.1 with
  | .int i => some (.int (-i), p.2)
  | _ => none
theorem df_neg {e : Expr} {t : TF} {pos : Pos} (h : DF X e t) : DF X (.UnaryOp .USub e pos) (dNeg t) :=
  PEi (pe_un un_neg h) fun σ H Q ⟨G, T, sd, d, sd', S, e1, k⟩ => by
    obtain ⟨p, hp, e1⟩ := bindS e1
    refine ⟨G, T, sd, p.1, p.2, S, hp, fun v G1 H1 s1 S1 r1 => ?_⟩
    split at e1
    · rename_i i hi
      cases e1
      rw [hi] at r1
      exact ⟨i, r1.i, k _ G1 H1 s1 S1 (Rep.int ..)⟩
    · cases e1
end
end DS
end

section
set_option Elab.async false
set_option linter.all false
set_option maxRecDepth 100000
set_option maxHeartbeats 1000000
namespace DS
open PySem PySem.Spec PyProof.Rows L2
/-! ### short rules for printed terms -/
section
variable {X : Cx} {fx : List Nat}
/-- a name's thing: handed on if it is owned, else a copy of the reference -/
def dTake (i : Nat) : TV := fun sd => match sd[i]? with
  | some (some (.fz d)) => some (.fz d, sd)
  | some (some (.ow d)) => some (.ow d, sd.set i none)
  | _ => none
theorem dv_take {i : Nat} {e : Expr} (h : PE X e (tVar i)) : DVE X e (dTake i) := ⟨fun pins s σ H Q I ⟨G, T, sd, r, sd', S, e1, k⟩ => by
  unfold dTake at e1
  split at e1
  · rename_i d hd
    cases e1
    refine (dv_of (df_var h)).run pins s σ H Q I ⟨G, T, sd, .fz d, sd, S, ?_, k⟩
    unfold ofF dVar; rw [hd]; rfl
  · rename_i d hd
    cases e1
    refine (dv_move h).run pins s σ H Q I ⟨G, T, sd, .ow d, sd.set i none, S, ?_, k⟩
    unfold dMove; rw [hd]
  · cases e1⟩
theorem ds_setN {i : Nat} {x : Str} {e : Expr} {t : TV} {pos pos' : Pos} (hN : X.N.Nodup) (h : DVE X e t) (hi : X.N[i]? = some x := by rfl) (hx : Loc X.env.scope x := by first | exact Or.inl rfl | exact Or.inr rfl) (hs : swapsWith e (some (.Name x pos')) pos.line X.env = pure false := by rfl) (hf : X.fn x = true ∨ X.env.scope.names.lookup x = some .local := by first | exact .inl rfl | exact .inr rfl) (hfx : i ∉ fx := by decide) :
    DS' X fx (.Assign [.Name x pos'] e pos) (dSet i t) := ds_set (ps_set hN hi hx h hs hf) (fun _ _ _ z => z) hfx
theorem dg_nm {i : Nat} {x : Str} {p : Pos} (hN : X.N.Nodup) (hi : X.N[i]? = some x := by rfl) (hx : Loc X.env.scope x := by first | exact Or.inl rfl | exact Or.inr rfl) (hf : X.fn x = true ∨ X.env.scope.names.lookup x = some .local := by first | exact .inl rfl | exact .inr rfl) (hfx : i ∉ fx := by decide) : DG X fx (.Name x p) (bName i) := dg_name (pg_name hN hi hx hf) hfx
/-- a def that stands behind the top -/
structure CalD (P : Program) (w : World) (K : PySem.W.Frag) (mg : Str → Option Value) (base : Heap) (k : Nat) (x : Str) (st : Stmt) (ps : List Str) (sm : Sem) : Prop where
  ex : ∃ (f : Addr) (fd : FuncData), FunD K x x (defArgs st) (defBody st) (defScope st) [] [] f fd ∧ FnOk P w K mg base CX0 k f fd ps (spD ⟨P, w, K, mg⟩ sm) ∧ mg x = some (.ref f) ∧ Binds K fd ps []
theorem defOk0 {c : RC} : DefOk c [] [] := fun G => RepL.nil
theorem dCall_def {sm : Sem} {t : TAr} : dCall sm (aDef [] t) = dCall sm t := by
  funext sd
  unfold dCall aDef
  cases t sd with
  | none => rfl
  | some p => simp
theorem dv_cal {k : Nat} {x : Str} {st : Stmt} {ps : List Str} {sm : Sem} {p pos : Pos} {e : Expr} {es : List Expr} {t : TAr} (C : CalD X.prog X.w X.K X.mg X.base k x st ps sm) (hr : Room k X.A) (ha : DAr X (e :: es) t) (hg : Gl X x := by rfl) (hdb : (x == ("__debug__" : Str)) = false := by decide)
    (he : starEach (e :: es) X.env = (false, eval e X.env) :: starEach es X.env := by rfl) (hpl : (backTo pos (starEach es X.env)).any (·.1) = false := by rfl) : DVE X (.Call (.Name x p) (e :: es) [] pos) (dCall sm t) := by
  obtain ⟨f, fd, F, G, hm, hb⟩ := C.ex
  rw [← dCall_def]
  exact dv_call G hr hg hm F.kp hb .nil defOk0 ha hdb he hpl
theorem dv_cal0 {k : Nat} {x : Str} {st : Stmt} {ps : List Str} {sm : Sem} {p pos : Pos} (C : CalD X.prog X.w X.K X.mg X.base k x st ps sm) (hr : Room k X.A) (hg : Gl X x := by rfl) (hdb : (x == ("__debug__" : Str)) = false := by decide) : DVE X (.Call (.Name x p) [] [] pos) (dCall sm aNil) := by
  obtain ⟨f, fd, F, G, hm, hb⟩ := C.ex
  rw [← dCall_def]
  exact dv_call0 G hr hg hm F.kp hb .nil defOk0 hdb
/-- how a def's arguments bind by name -/
theorem kbnD {K : PySem.W.Frag} {x qual : Str} {params : Arguments} {body : List Stmt} {scope : Scope} {f : Addr} {fd : FuncData} {ps ks : List Str} (pm : List Nat) (F : FunD K x qual params body scope [] [] f fd)
    (h : ∀ (kV doc pm0 : Value) (an : Option Addr) (cdv ct : Value) (ws : List Value), ws.length = ks.length → bindArgs (PySem.W.fnOf x qual params body scope .none kV doc pm0 an cdv ct) ⟨[], ks.zip ws⟩ = pure (ps.zip (pick pm ws))) : KBn K fd ps 0 ks (fun _ ws => pick pm ws) (fun _ zs => pick pm zs) := by
  obtain ⟨oc, od, dV, kV, doc, pm0, an, cdv, ct, osl, rfl, lk, hcd, hD, hK⟩ := F.ex
  rcases hD with ⟨_, rfl⟩ | ⟨e, _⟩
  · refine ⟨fun s us ws _ l1 l2 => ?_, fun r1 r2 => pick_vals r2⟩
    obtain rfl := List.eq_nil_of_length_eq_zero l1
    exact .of_eq (h kV doc pm0 an cdv ct ws l2)
  · exact absurd rfl e
theorem dv_calK {k : Nat} {x : Str} {st : Stmt} {ps ks : List Str} {sm : Sem} {p pos : Pos} {kws : List Keyword} {t : TAr} (pm : List Nat) (C : CalD X.prog X.w X.K X.mg X.base k x st ps sm) (hr : Room k X.A) (ha : DK X kws t)
    (hb : ∀ (kV doc pm0 : Value) (an : Option Addr) (cdv ct : Value) (ws : List Value), ws.length = ks.length → bindArgs (PySem.W.fnOf x x (defArgs st) (defBody st) (defScope st) .none kV doc pm0 an cdv ct) ⟨[], ks.zip ws⟩ = pure (ps.zip (pick pm ws)))
    (hks : (backToKw pos (keywordEach kws X.env)).filterMap (·.1) = ks := by rfl) (hg : Gl X x := by rfl) (hall : (backToKw pos (keywordEach kws X.env)).all (·.1.isSome) = true := by rfl)
    (hdb : (x == ("__debug__" : Str)) = false := by decide) (hpl : ((backTo pos (starEach [] X.env)).any (·.1) || (backToKw pos (keywordEach kws X.env)).any (·.1.isNone)) = false := by rfl) :
    DVE X (.Call (.Name x p) [] kws pos) (dCallK ks.length sm pm t) := by
  obtain ⟨f, fd, F, G, hm, _⟩ := C.ex
  exact dv_call0K pm G hr hg hm F.kp (kbnD pm F hb) ha hall hks hdb hpl
end
/-- THE RULE for a def of the top -/
theorem calD {P : Program} {w : World} {K : PySem.W.Frag} {mg : Str → Option Value} {base : Heap} {x : Str} {st : Stmt} {f : Addr} {fd : FuncData} {N ps : List Str} {fx : List Nat} {t : TM} {k : Nat} (F : FunD K x x (defArgs st) (defBody st) (defScope st) [] [] f fd) (hm : mg x = some (.ref f)) (S : FnScope N ps (defScope st)) (hN : ps.length ≤ N.length) (hfx : ∀ i, i ∈ fx → i < ps.length)
    (hb : ∀ (kV doc pm : Value) (an : Option Addr) (cdv ct : Value) (us : List Value), us.length = ps.length → bindArgs (PySem.W.fnOf x x (defArgs st) (defBody st) (defScope st) .none kV doc pm an cdv ct) ⟨us, []⟩ = pure (ps.zip us))
    (body : ∀ (cdv : Value) (A : Around) (outer : List Env) (s : Shared) (H : Hp) (E : XK), Room k (A.deeper (envOfC x (defScope st) s.heap.objs.size f cdv)) → DSs (cxOf CX0 P w K mg base N x (defScope st) f cdv A outer s H E).nox fx (defBody st) t) :
    CalD P w K mg base (k + 1) x st ps (semOf ps.length N.length fx t) :=
  ⟨f, fd, F, F.ok S (fun vs H Q E h => (run_body h hN hfx).1) fun cdv A outer s H vs Q E hr h => ⟨_, (body cdv A outer s H E hr).nox, (run_body h hN hfx).2⟩, hm, F.bindsN hb⟩
theorem fnDD {P : Program} {w : World} {K : PySem.W.Frag} {mg : Str → Option Value} {base : Heap} {x : Str} {st : Stmt} {f : Addr} {fd : FuncData} {N ps : List Str} {fx : List Nat} {t : TM} {k : Nat} (F : FunD K x x (defArgs st) (defBody st) (defScope st) [] [] f fd) (S : FnScope N ps (defScope st)) (hN : ps.length ≤ N.length) (hfx : ∀ i, i ∈ fx → i < ps.length)
    (body : ∀ (cdv : Value) (A : Around) (outer : List Env) (s : Shared) (H : Hp) (E : XK), Room k (A.deeper (envOfC x (defScope st) s.heap.objs.size f cdv)) → DSs (cxOf CX0 P w K mg base N x (defScope st) f cdv A outer s H E).nox fx (defBody st) t) :
    FnOk P w K mg base CX0 (k + 1) f fd ps (spD ⟨P, w, K, mg⟩ (semOf ps.length N.length fx t)) :=
  F.ok S (fun vs H Q E h => (run_body h hN hfx).1) fun cdv A outer s H vs Q E hr h => ⟨_, (body cdv A outer s H E hr).nox, (run_body h hN hfx).2⟩
/-- the law's own end: what its function on data says, at a script -/
theorem law_end {c : RC} {H : Hp} {a : Addr} {ns : List Int} {f : Sem} {ds' : List DV} {E : XK} (hS : SqL c.K H a (ns.map V.int)) (e1 : f [.fz (.kl (ns.map .int))] = some (.fz (.bl true), ds')) (e2 : ds'.length = 1) : spD c f [.ref a] H (fun v _ => v = .bl true) E := by
  have rl : ∀ l : List Int, RepL c H (l.map D.int) (l.map V.int) := fun l => by
    induction l with
    | nil => exact RepL.nil
    | cons i l ih => exact RepL.cons (Rep.int ..) ih
  refine ⟨H, fun _ => none, [.fz (.kl (ns.map .int))], .fz (.bl true), ds', ⟨Same.refl, fun _ _ e => (nomatch e), fun _ _ e => (nomatch e), rfl, fun i dv e => ?_, fun i j d e v h1 => ?_⟩, e1, by rw [e2]; rfl, fun v G' H' _ _ r _ => ?_⟩
  · cases i with
    | zero =>
      simp only [List.map_cons, List.getElem?_cons_zero, Option.some.injEq] at e
      subst e
      exact ⟨.ref a, rfl, by show Rep _ _ _ _; simp only [Rep]; exact ⟨a, _, rfl, hS, rl ns⟩⟩
    | succ i => simp at e
  · cases i with
    | zero => simp at h1
    | succ i => simp at h1
  · exact (show Rep c G' (.bl true) v from r).b
theorem room80 {A : Around} {k : Nat} (hr : Room k A) : A.units + 80 < cLine := by have := hr.un; omega
theorem room64 {A : Around} {k : Nat} (hr : Room k A) : A.units + 64 < cLine := by have := hr.un; omega
end DS
namespace DS
open PySem PySem.Spec PyProof.Rows L2
section
variable {X : Cx} {fx : List Nat}
/-- == of plain data or of dicts -/
def eqA (neg : Bool) : F2 := fun x y => match eqP neg x y with
  | some d => some d
  | none => eqDP neg x y
theorem op_eqA (hu : X.A.units + 80 < cLine) : OpR X (compareOp .Eq) (liftOp (rc X) (eqA false)) :=
  OpRi ((op_eqP (by omega)).or (op_eqDP hu)) fun v u H Q ⟨G, T, sd, σ, x, y, d, S, rx, ry, e, k⟩ => by
    unfold eqA at e
    split at e
    · rename_i d' hd
      cases e
      exact .inl ⟨G, T, sd, σ, x, y, _, S, rx, ry, hd, k⟩
    · exact .inr ⟨G, T, sd, σ, x, y, d, S, rx, ry, e, k⟩
theorem op_neA (hu : X.A.units + 80 < cLine) : OpR X (compareOp .NotEq) (liftOp (rc X) (eqA true)) :=
  OpRi ((op_neP (by omega)).or (op_neDP hu)) fun v u H Q ⟨G, T, sd, σ, x, y, d, S, rx, ry, e, k⟩ => by
    unfold eqA at e
    split at e
    · rename_i d' hd
      cases e
      exact .inl ⟨G, T, sd, σ, x, y, _, S, rx, ry, hd, k⟩
    · exact .inr ⟨G, T, sd, σ, x, y, d, S, rx, ry, e, k⟩
theorem df_gintE {x : Str} {n : Int} {pos : Pos} (hm : ∃ t, X.mg x = some (.int n t)) (hg : Gl X x := by rfl) (hd : (x == ("__debug__" : Str)) = false := by decide) : DF X (.Name x pos) (dC (.int n)) := by
  obtain ⟨t, hm⟩ := hm
  exact df_gint hg hm hd
theorem df_isI {i : Nat} {T : String} {y : Str} {e : Expr} {p pos p2 : Pos} (hm : X.mg "isinstance" = none) (hm2 : X.mg y = none) (he : PE X e (tVar i)) (hv : bootBuiltins y = some (.type T) := by rfl) (hg : Gl X "isinstance" := by rfl) (hg2 : Gl X y := by rfl) (hn : y ≠ "__name__" := by decide) (hdb : (y == ("__debug__" : Str)) = false := by decide)
    (h1 : starEach [e, .Name y p2] X.env = (false, eval e X.env) :: starEach [.Name y p2] X.env := by rfl) (h2 : starEach [.Name y p2] X.env = (false, eval (.Name y p2) X.env) :: starEach [] X.env := by rfl) (hpl : (backTo pos (starEach [.Name y p2] X.env)).any (·.1) = false := by rfl) :
    DF X (.Call (.Name "isinstance" p) [e, .Name y p2] [] pos) (dIsS i T) :=
  df_isS hg hm rfl he (pe_bltn hg2 hm2 hv rfl hn hdb) (by decide) (by decide) h1 h2 hpl
end
end DS
namespace DS
open PySem PySem.Spec PyProof.Rows L2
section
variable {X : Cx} {fx : List Nat}
theorem tst_read {t : TF} {σ : L2.St} {H : Hp} {Q : Bool → Hp → Prop} (h : liftT (rc X) (dTst t) σ H Q) : liftF (rc X) t σ H fun z H3 => ∃ k, z = .bl k ∧ Q k H3 := by
  obtain ⟨G, T, sd, b, sd', S, e1, k⟩ := h
  obtain ⟨p, hp, e1⟩ := bindS e1
  refine ⟨G, T, sd, p.1, p.2, S, hp, fun v G' H' s S' r => ?_⟩
  split at e1
  · rename_i b' hb
    cases e1
    rw [hb] at r
    exact ⟨_, r.b, k G' H' s S'⟩
  · cases e1
theorem cmpS_read {f : F2} {ta : TF} {i : Nat} {σ : L2.St} {H : Hp} {Q : VK} (h : liftF (rc X) (dBinS f ta i) σ H Q) : liftF (rc X) ta σ H fun x H1 => tVar i σ H1 fun y H2 => liftOpV (rc X) f x y H2 Q := by
  obtain ⟨G, T, sd, d, sd', S, e1, k⟩ := h
  obtain ⟨p, hp, e1⟩ := bindS e1
  refine ⟨G, T, sd, p.1, p.2, S, hp, fun v G1 H1 s1 S1 r1 => ?_⟩
  split at e1
  · rename_i dv h2
    obtain ⟨d', e2, e1⟩ := bindS e1
    cases e1
    obtain ⟨w, hw, r⟩ := S1.slots i _ h2
    exact ⟨w, hw, G1, T, p.2, σ, p.1, dv.d, d, S1, r1, r.view, e2, fun u G2 H2 s2 S2 r2 => k u G2 H2 (Same.tr s1 s2) S2 r2⟩
  · cases e1
theorem dt_cmp {op : CmpOp} {f : F2} {a b : Expr} {ta tb : TF} {pos : Pos} (ho : OpR X (compareOp op) (liftOp (rc X) f)) (ha : DF X a ta) (hb : DF X b tb) (hm : behindInMarks op b = false) : DT X (.Compare a [op] [b] pos) (dTst (dBin f ta tb)) :=
  PTi (pt_cmpR ho ha hb hm) fun σ H Q h => two_ok (tst_read h)
theorem dt_cmpS {op : CmpOp} {f : F2} {i : Nat} {a b : Expr} {ta : TF} {pos : Pos} (ho : OpR X (compareOp op) (liftOpV (rc X) f)) (ha : DF X a ta) (hb : PE X b (tVar i)) (hm : behindInMarks op b = false := by rfl) : DT X (.Compare a [op] [b] pos) (dTst (dBinS f ta i)) :=
  PTi (pt_cmpR ho ha hb hm) fun σ H Q h => cmpS_read (tst_read h)
theorem dt_cmpV {op : CmpOp} {f : F2} {a b : Expr} {ta tb : TF} {pos : Pos} (ho : OpR X (compareOp op) (liftOpV (rc X) f)) (ha : DF X a ta) (hb : DF X b tb) (hm : behindInMarks op b = false := by rfl) : DT X (.Compare a [op] [b] pos) (dTst (dBin f ta tb)) :=
  PTi (pt_cmpR ho ha hb hm) fun σ H Q h => by
    obtain ⟨G, T, sd, x, sd1, S, e1, k⟩ := two_ok (tst_read h)
    refine ⟨G, T, sd, x, sd1, S, e1, fun v G1 H1 s1 S1 r1 => ?_⟩
    obtain ⟨G2, T2, sd2, y, sd3, S2, e2, k2⟩ := k v G1 H1 s1 S1 r1
    refine ⟨G2, T2, sd2, y, sd3, S2, e2, fun u G3 H3 s3 S3 r3 => ?_⟩
    obtain ⟨G4, T4, sd4, σ4, x4, y4, d4, S4, a4, b4, e4, k4⟩ := k2 u G3 H3 s3 S3 r3
    exact ⟨G4, T4, sd4, σ4, x4, y4, d4, S4, a4, .inl b4, e4, k4⟩
theorem fxOk {N : List Str} {own : List (Str × Nat)} {fxc : List Nat} (h : ((List.range N.length).all fun i => decide (i ∈ own.map (·.2)) || decide (i ∈ fxc)) = true) : ∀ i, i < N.length → i ∉ own.map (·.2) → i ∈ fxc := fun i hi hn => by
  have := List.all_eq_true.mp h i (List.mem_range.mpr hi)
  rw [Bool.or_eq_true, decide_eq_true_eq, decide_eq_true_eq] at this
  exact this.resolve_left hn
end
end DS
end

section
set_option Elab.async false
set_option linter.all false
set_option maxRecDepth 100000
set_option maxHeartbeats 4000000
namespace K25
open PySem PySem.Spec PyProof.Rows L2 DS
def top (i : Nat) : Stmt := PySem.Challenge.pw_aheadsums_k25_whole_lacings_of_three_and.main.body.getD i (.Pass ⟨0, 0, 0, 0⟩)
abbrev s_law_pot : Stmt := top 30
abbrev N_law_pot : List Str := ["_law_script", "_law_k", "_law_cell"]
def t_law_pot : TM :=
    (dSeq (dSet 2 (dIfV (dTst (dBin (ltD) (dVar 1) (ice (dBI lenB (aSlot 0 aNil))))) (dBI absB (aVal (ofF (dIxV 0 (dVar 1))) aNil)) (ofF (dBin addD (dBin mulD (dC (.int 977)) (dVar 1)) (dC (.int 823))))))
    (dRet (dLst (dCons (ice (dBI maxB (aVal (ofF (dC (.int 0))) (aVal (ofF (dBin subD (dVar 2) (dBin powD (dC (.int 10)) (dC (.int 18))))) aNil)))) (dCons (dBin addD (dBin modD (ice (dBI intB (aVal (ofF (dBin addD (dBin addD (dBin mulD (dBin modD (ice (dBI intB (aSlot 2 aNil))) (dC (.int 2147483549))) (dC (.int 48271))) (dBin mulD (dC (.int 29742)) (dVar 1))) (dC (.int 733)))) aNil))) (dC (.int 2147483563))) (dC (.int 1))) dNil)))))
def sem_law_pot : Sem := semOf 2 3 [0, 1] t_law_pot
abbrev s_law_draw : Stmt := top 31
abbrev N_law_draw : List Str := ["_law_pot_here", "_law_many", "_law_digit"]
def t_law_draw : TM :=
    (dSeq (dIfS (dTst (dBin (gtD) (dIxV 0 (dC (.int 0))) (dC (.int 0)))) (dSeq (dAsgG (ice (dBI divmodB (aVal (ofF (dIxV 0 (dC (.int 0)))) (aSlot 1 aNil)))) (bTup 2 (bCons (bSub 0 (dC (.int 0))) (bCons (bName 2) bNil))))
    (dRet (dTake 2))) dNext)
    (dSeq (dAsgG (dBin modD (ice (dBI intB (aVal (ofF (dBin addD (dBin mulD (dIxV 0 (dC (.int 1))) (dC (.int 39373))) (dC (.int 733)))) aNil))) (dC (.int 2147483587))) (bSub 0 (dC (.int 1))))
    (dRet (ofF (dBin modD (ice (dBI intB (aVal (ofF (dBin fdivD (dBin modD (ice (dBI intB (aVal (ofF (dBin mulD (dIxV 0 (dC (.int 1))) (dIxV 0 (dC (.int 1))))) aNil))) (dC (.int 2147483563))) (dC (.int 17)))) aNil))) (dVar 1))))))
def sem_law_draw : Sem := semOf 2 3 [0, 1] t_law_draw
abbrev s_law_at : Stmt := top 36
abbrev N_law_at : List Str := ["_law_one", "_law_near", "_law_far", "_law_other", "_law_at_here", "_law_a", "_law_b"]
def t_law_at : TM :=
    (dSeq (dIfS (dTst (dBinS (inD true) (dVar 4) 2)) (dRet (ofF (dIxV 0 (dIdx 1 (dVar 4))))) dNext)
    (dSeq (dIfS (dTst (dBinS (inD true) (dVar 4) 1)) (dRet (ofF (dIxV 3 (dIdx 2 (dVar 4))))) dNext)
    (dRet (dBI tupleB (aVal (dLc (dWZp (dIxV 0 (dIdx 1 (dVar 4))) (dIxV 3 (dIdx 2 (dVar 4)))) (bTup 2 (bCons (bName 5) (bCons (bName 6) bNil))) dYes (dBin addD (dVar 5) (dVar 6)) [5, 6]) aNil)))))
def sem_law_at : Sem := semOf 5 7 [0, 1, 2, 3, 4] t_law_at
abbrev s_law_choices : Stmt := top 34
abbrev N_law_choices : List Str := ["_law_below", "_law_many", "_law_found", "_law_turn", "_law_longer", "_law_one", "_law_at_here"]
def t_law_choices : TM :=
    (dSeq (dSet 2 (dLst (dCons (ice (dLst dNil)) dNil)))
    (dSeq (dFor (dWR1 (dVar 1)) (bName 3)
    (dSeq (dSet 4 (dLst dNil))
    (dSeq (dFor (dWSeq (dVar 2)) (bName 5)
    (dExp (dExt 4 (ice (dLc (dWR2 (dIf (dTst (dBin (eqA true) (dVar 5) (ice (dLst dNil)))) (dBin addD (dIxV 5 (dNeg (dC (.int 1)))) (dC (.int 1))) (dC (.int 0))) (dVar 0)) (bName 6) dYes (dBin addD (dVar 5) (ice (dLst (dCons (dVar 6) dNil)))) [6])))))
    (dSet 2 (dTake 4)))))
    (dRet (dTake 2))))
def sem_law_choices : Sem := semOf 2 7 [0, 1] t_law_choices
abbrev s_law_laced : Stmt := top 35
abbrev N_law_laced : List Str := ["_law_one", "_law_other", "_law_found", "_law_many", "_law_near", "_law_far", "_law_word_here", "_law_at_here"]
def t_law_laced : TM :=
    (dSeq (dSet 2 dDnew)
    (dSeq (dFor (dWR2 (ice (dBI maxB (aVal (dBI lenB (aSlot 0 aNil)) (aVal (dBI lenB (aSlot 1 aNil)) aNil)))) (dBin addD (dBin addD (ice (dBI lenB (aSlot 0 aNil))) (ice (dBI lenB (aSlot 1 aNil)))) (dC (.int 1)))) (bName 3)
    (dFor (dWSeq (ice (dCall sem_law_choices (aSlot 3 (aVal (dBI lenB (aSlot 0 aNil)) aNil))))) (bName 4)
    (dFor (dWSeq (ice (dCall sem_law_choices (aSlot 3 (aVal (dBI lenB (aSlot 1 aNil)) aNil))))) (bName 5)
    (dIfS (dTst (ice (dBI allB (aVal (dLc (dWR1 (dVar 3)) (bName 7) dYes (dOrV (dBinS (inD false) (dVar 7) 4) (dBinS (inD false) (dVar 7) 5)) [7]) aNil)))) (dSeq (dSet 6 (dBI tupleB (aVal (dLc (dWR1 (dVar 3)) (bName 7) dYes (ice (dCall sem_law_at (aSlot 0 (aSlot 4 (aSlot 5 (aSlot 1 (aSlot 7 aNil))))))) [7]) aNil)))
    (dAsgG (dBin addD (dGet 2 (dVar 6) (dC (.int 0))) (dC (.int 1))) (bSub 2 (dVar 6)))) dNext))))
    (dRet (dTake 2))))
def sem_law_laced : Sem := semOf 2 8 [0, 1] t_law_laced
abbrev s_law_put : Stmt := top 37
abbrev N_law_put : List Str := ["_law_found", "_law_key", "_law_often"]
def t_law_put : TM :=
    (dAsgG (dBin addD (dGet 0 (dVar 1) (dC (.int 0))) (dVar 2)) (bSub 0 (dVar 1)))
def sem_law_put : Sem := semOf 3 3 [0, 1, 2] t_law_put
abbrev s_letters_times : Stmt := top 19
abbrev N_letters_times : List Str := ["letter", "other", "one", "two"]
def t_letters_times : TM :=
    (dRet (dBI tupleB (aVal (dLc (dWZp (dVar 0) (dVar 1)) (bTup 2 (bCons (bName 2) (bCons (bName 3) bNil))) dYes (dBin addD (dVar 2) (dVar 3)) [2, 3]) aNil)))
def sem_letters_times : Sem := semOf 2 4 [0, 1] t_letters_times
abbrev s_put_longer : Stmt := top 26
abbrev N_put_longer : List Str := ["found", "some", "letter", "word", "often", "longer"]
def t_put_longer : TM :=
    (dFor (dWIt (dVar 1)) (bTup 2 (bCons (bName 3) (bCons (bName 4) bNil)))
    (dSeq (dSet 5 (ofF (dBin addD (dVar 3) (dTup (dCons (dVar 2) dNil)))))
    (dAsgG (dBin addD (dGet 0 (dVar 5) (dC (.int 0))) (dVar 4)) (bSub 0 (dVar 5)))))
def sem_put_longer : Sem := semOf 3 6 [0, 1, 2] t_put_longer
abbrev s_laced : Stmt := top 27
abbrev N_laced : List Str := ["word", "other", "row", "at", "letter", "late", "to", "far", "found"]
def t_laced : TM :=
    (dSeq (dSet 2 (dLc (dWR1 (dBin addD (ice (dBI lenB (aSlot 1 aNil))) (dC (.int 1)))) (bName 3) dYes (ice (dDisp1 (ice (dSl (dVar 1) dNoPt (dPt (dVar 3)))) (dC (.int 1)))) [3]))
    (dSeq (dFor (dWEn (dVar 0)) (bTup 2 (bCons (bName 3) (bCons (bName 4) bNil)))
    (dSeq (dSet 5 (dLst (dCons (ice (dDisp1 (ice (dSl (dVar 0) dNoPt (dPt (dBin addD (dVar 3) (dC (.int 1)))))) (dC (.int 1)))) dNil)))
    (dSeq (dFor (dWEn (dVar 1)) (bTup 2 (bCons (bName 6) (bCons (bName 7) bNil)))
    (dSeq (dSet 8 dDnew)
    (dSeq (dExp (ice (dCall sem_put_longer (aSlot 8 (aVal (ofF (dIxV 2 (dBin addD (dVar 6) (dC (.int 1))))) (aSlot 4 aNil))))))
    (dSeq (dExp (ice (dCall sem_put_longer (aSlot 8 (aVal (ofF (dIxV 5 (dVar 6))) (aSlot 7 aNil))))))
    (dSeq (dExp (ice (dCall sem_put_longer (aSlot 8 (aVal (ofF (dIxV 2 (dVar 6))) (aVal (dCall sem_letters_times (aSlot 4 (aSlot 7 aNil))) aNil))))))
    (dExp (dApp 5 (dVar 8))))))))
    (dSet 2 (dTake 5)))))
    (dRet (ofF (dIxV 2 (dNeg (dC (.int 1))))))))
def sem_laced : Sem := semOf 2 9 [0, 1] t_laced
abbrev s_want_at_most : Stmt := top 9
abbrev N_want_at_most : List Str := ["what", "limit", "number"]
def t_want_at_most : TM :=
    (dIfS (dTst (dBin (gtD) (dVar 2) (dVar 1))) dNever dNext)
def sem_want_at_most : Sem := semOf 3 3 [0, 1, 2] t_want_at_most
abbrev s_is_integer : Stmt := top 7
abbrev N_is_integer : List Str := ["value"]
def t_is_integer : TM :=
    (dRet (ofF (dAndV (dIsS 0 "int") (dNotV (dIsS 0 "bool")))))
def sem_is_integer : Sem := semOf 1 1 [0] t_is_integer
abbrev s_is_count : Stmt := top 8
abbrev N_is_count : List Str := ["value"]
def t_is_count : TM :=
    (dRet (ofF (dAndV (ice (dCall sem_is_integer (aSlot 0 aNil))) (dBin (geD) (dVar 0) (dC (.int 0))))))
def sem_is_count : Sem := semOf 1 1 [0] t_is_count
abbrev s_want_columns : Stmt := top 12
abbrev N_want_columns : List Str := ["value"]
def t_want_columns : TM :=
    (dIfS (dOr (dNot (dTst (ice (dCall sem_is_count (aSlot 0 aNil))))) (dTst (dBin (gtD) (dVar 0) (dC (.int 3))))) dNever dNext)
def sem_want_columns : Sem := semOf 1 1 [0] t_want_columns
abbrev s_is_letter_of : Stmt := top 16
abbrev N_is_letter_of : List Str := ["columns", "value", "power"]
def t_is_letter_of : TM :=
    (dSeq (dIfS (dOr (dNot (dTst (dIsS 1 "tuple"))) (dTst (dBin (eqA true) (ice (dBI lenB (aSlot 1 aNil))) (dVar 0)))) (dRet (ofF (dC (.bl false)))) dNext)
    (dRet (dBI allB (aVal (dLc (dWSeq (dVar 1)) (bName 2) dYes (dAndV (ice (dCall sem_is_count (aSlot 2 aNil))) (dBin (leD) (dVar 2) (dC (.int 8)))) [2]) aNil))))
def sem_is_letter_of : Sem := semOf 2 3 [0, 1] t_is_letter_of
abbrev s_is_word_of : Stmt := top 17
abbrev N_is_word_of : List Str := ["columns", "value", "letter"]
def t_is_word_of : TM :=
    (dSeq (dIfS (dOr (dNot (dTst (dIsS 1 "tuple"))) (dTst (dBin (gtD) (ice (dBI lenB (aSlot 1 aNil))) (dC (.int 8))))) (dRet (ofF (dC (.bl false)))) dNext)
    (dRet (dBI allB (aVal (dLc (dWSeq (dVar 1)) (bName 2) dYes (ice (dCall sem_is_letter_of (aSlot 0 (aSlot 2 aNil)))) [2]) aNil))))
def sem_is_word_of : Sem := semOf 2 3 [0, 1] t_is_word_of
abbrev s_want_word : Stmt := top 18
abbrev N_want_word : List Str := ["columns", "value"]
def t_want_word : TM :=
    (dIfS (dNot (dTst (ice (dCall sem_is_word_of (aSlot 0 (aSlot 1 aNil)))))) dNever dNext)
def sem_want_word : Sem := semOf 2 2 [0, 1] t_want_word
abbrev s_ways_many : Stmt := top 25
abbrev N_ways_many : List Str := ["many", "other", "row", "turn", "late", "at"]
def t_ways_many : TM :=
    (dSeq (dSet 2 (ofF (dBin mulD (ice (dLst (dCons (dC (.int 1)) dNil))) (dBin addD (dVar 1) (dC (.int 1))))))
    (dSeq (dFor (dWR1 (dVar 0)) (bName 3)
    (dSeq (dSet 4 (dLst (dCons (dC (.int 1)) dNil)))
    (dSeq (dFor (dWR1 (dVar 1)) (bName 5)
    (dExp (dApp 4 (dBin addD (dBin addD (dIxV 4 (dNeg (dC (.int 1)))) (dIxV 2 (dVar 5))) (dIxV 2 (dBin addD (dVar 5) (dC (.int 1))))))))
    (dSet 2 (dTake 4)))))
    (dRet (ofF (dIxV 2 (dNeg (dC (.int 1))))))))
def sem_ways_many : Sem := semOf 2 6 [0, 1] t_ways_many
abbrev s_lacings : Stmt := top 28
abbrev N_lacings : List Str := ["columns", "word", "other"]
def t_lacings : TM :=
    (dSeq (dExp (ice (dCall sem_want_columns (aSlot 0 aNil))))
    (dSeq (dExp (ice (dCall sem_want_word (aSlot 0 (aSlot 1 aNil)))))
    (dSeq (dExp (ice (dCall sem_want_word (aSlot 0 (aSlot 2 aNil)))))
    (dSeq (dExp (ice (dCall sem_want_at_most (aVal (ofF (dC (.str "lacings"))) (aVal (ofF (dC (.int 400))) (aVal (dCall sem_ways_many (aVal (dBI lenB (aSlot 1 aNil)) (aVal (dBI lenB (aSlot 2 aNil)) aNil))) aNil))))))
    (dRet (dIts sortD (ice (dCall sem_laced (aSlot 1 (aSlot 2 aNil))))))))))
def sem_lacings : Sem := semOf 3 3 [0, 1, 2] t_lacings
abbrev s_law_further : Stmt := top 38
abbrev N_law_further : List Str := ["_law_columns", "_law_some", "_law_word_here", "_law_is_own", "_law_found", "_law_one", "_law_often", "_law_told", "_law_more"]
def t_law_further : TM :=
    (dSeq (dSet 4 dDnew)
    (dSeq (dFor (dWSeq (dVar 1)) (bTup 2 (bCons (bName 5) (bCons (bName 6) bNil)))
    (dFor (dWSeq (dIf (dTst (dVar 3)) (ice (dIts some (ice (dCall sem_law_laced (aSlot 5 (aSlot 2 aNil)))))) (ice (dCall sem_lacings (aSlot 0 (aSlot 5 (aSlot 2 aNil))))))) (bTup 2 (bCons (bName 7) (bCons (bName 8) bNil)))
    (dExp (ice (dCall sem_law_put (aSlot 4 (aSlot 7 (aVal (ofF (dBin mulD (dVar 6) (dVar 8))) aNil))))))))
    (dRet (dTake 4))))
def sem_law_further : Sem := semOf 4 9 [0, 1, 2, 3] t_law_further
abbrev s_law_letter : Stmt := top 32
abbrev N_law_letter : List Str := ["_law_pot_here", "_law_columns", "_law_most", "_law_powers", "_law_column"]
def t_law_letter : TM :=
    (dSeq (dSet 3 (dLst dNil))
    (dSeq (dFor (dWR1 (dVar 1)) (bName 4)
    (dExp (dApp 3 (ice (dCall sem_law_draw (aSlot 0 (aVal (ofF (dBin addD (dVar 2) (dC (.int 1)))) aNil)))))))
    (dRet (dBI tupleB (aSlot 3 aNil)))))
def sem_law_letter : Sem := semOf 3 5 [0, 1, 2] t_law_letter
abbrev s_law_word : Stmt := top 33
abbrev N_law_word : List Str := ["_law_pot_here", "_law_columns", "_law_many", "_law_found", "_law_turn"]
def t_law_word : TM :=
    (dSeq (dSet 3 (dLst dNil))
    (dSeq (dFor (dWR1 (dVar 2)) (bName 4)
    (dExp (dApp 3 (ice (dCall sem_law_letter (aSlot 0 (aSlot 1 (aVal (ofF (dC (.int 2))) aNil))))))))
    (dRet (dBI tupleB (aSlot 3 aNil)))))
def sem_law_word : Sem := semOf 3 5 [0, 1, 2] t_law_word
abbrev s_word_cuts : Stmt := top 20
abbrev N_word_cuts : List Str := ["word", "at"]
def t_word_cuts : TM :=
    (dRet (dLc (dWR1 (dBin addD (ice (dBI lenB (aSlot 0 aNil))) (dC (.int 1)))) (bName 1) dYes (dTup (dCons (ice (dSl (dVar 0) dNoPt (dPt (dVar 1)))) (dCons (ice (dSl (dVar 0) (dPt (dVar 1)) dNoPt)) dNil))) [1]))
def sem_word_cuts : Sem := semOf 1 2 [0] t_word_cuts
abbrev s_cuts : Stmt := top 21
abbrev N_cuts : List Str := ["columns", "word"]
def t_cuts : TM :=
    (dSeq (dExp (ice (dCall sem_want_columns (aSlot 0 aNil))))
    (dSeq (dExp (ice (dCall sem_want_word (aSlot 0 (aSlot 1 aNil)))))
    (dRet (dCall sem_word_cuts (aSlot 1 aNil)))))
def sem_cuts : Sem := semOf 2 2 [0, 1] t_cuts
abbrev s_turned_word : Stmt := top 22
abbrev N_turned_word : List Str := ["columns", "word"]
def t_turned_word : TM :=
    (dSeq (dExp (ice (dCall sem_want_columns (aSlot 0 aNil))))
    (dSeq (dExp (ice (dCall sem_want_word (aSlot 0 (aSlot 1 aNil)))))
    (dRet (dRev (dVar 1)))))
def sem_turned_word : Sem := semOf 2 2 [0, 1] t_turned_word
abbrev s_law_right : Stmt := top 39
abbrev N_law_right : List Str := ["_law_pot_here", "_law_columns", "_law_one", "_law_other", "_law_third", "_law_both", "_law_behind", "_law_near", "_law_far", "_law_due", "_law_left", "_law_right_here", "_law_word_here", "_law_often", "_law_cut", "_law_ahead", "_law_back", "_law_first", "_law_last", "_law_rest", "_law_more", "_law_turned"]
def t_law_right : TM :=
    (dSeq (dSet 1 (dCall sem_law_draw (aSlot 0 (aVal (ofF (dC (.int 3))) aNil))))
    (dSeq (dPar 2 3 (aVal (dCall sem_law_word (aSlot 0 (aSlot 1 (aVal (dCall sem_law_draw (aSlot 0 (aVal (ofF (dC (.int 3))) aNil))) aNil)))) (aVal (dCall sem_law_word (aSlot 0 (aSlot 1 (aVal (dCall sem_law_draw (aSlot 0 (aVal (ofF (dC (.int 3))) aNil))) aNil)))) aNil)))
    (dSeq (dSet 4 (dCall sem_law_word (aSlot 0 (aSlot 1 (aVal (dIfV (dTst (dBin (ltD) (dBin addD (ice (dBI lenB (aSlot 2 aNil))) (ice (dBI lenB (aSlot 3 aNil)))) (dC (.int 4)))) (dCall sem_law_draw (aSlot 0 (aVal (ofF (dC (.int 3))) aNil))) (ofF (dC (.int 1)))) aNil)))))
    (dSeq (dPar 5 6 (aVal (dCall sem_lacings (aSlot 1 (aSlot 2 (aSlot 3 aNil)))) (aVal (dCall sem_lacings (aSlot 1 (aSlot 3 (aSlot 4 aNil)))) aNil)))
    (dSeq (dPar 7 8 (aVal (dCall sem_law_further (aSlot 1 (aSlot 5 (aSlot 4 (aVal (ofF (dC (.bl false))) aNil))))) (aVal (dCall sem_law_further (aSlot 1 (aSlot 6 (aSlot 2 (aVal (ofF (dC (.bl false))) aNil))))) aNil)))
    (dSeq (dSet 9 (dCall sem_law_further (aSlot 1 (aVal (dBI sortB (aVal (dIts some (ice (dCall sem_law_laced (aSlot 2 (aSlot 3 aNil))))) aNil)) (aSlot 4 (aVal (ofF (dC (.bl true))) aNil))))))
    (dSeq (dIfS (dOr (dTst (dBin (eqA true) (dVar 7) (dVar 9))) (dTst (dBin (eqA true) (dVar 8) (dVar 9)))) (dRet (ofF (dC (.bl false)))) dNext)
    (dSeq (dPar 10 11 (aVal dDnew (aVal dDnew aNil)))
    (dSeq (dFor (dWSeq (dVar 5)) (bTup 2 (bCons (bName 12) (bCons (bName 13) bNil)))
    (dFor (dWSeq (ice (dCall sem_cuts (aSlot 1 (aSlot 12 aNil))))) (bName 14)
    (dExp (ice (dCall sem_law_put (aSlot 10 (aSlot 14 (aSlot 13 aNil))))))))
    (dSeq (dFor (dWSeq (ice (dCall sem_cuts (aSlot 1 (aSlot 2 aNil))))) (bTup 2 (bCons (bName 15) (bCons (bName 16) bNil)))
    (dFor (dWSeq (ice (dCall sem_cuts (aSlot 1 (aSlot 3 aNil))))) (bTup 2 (bCons (bName 17) (bCons (bName 18) bNil)))
    (dFor (dWSeq (ice (dCall sem_lacings (aSlot 1 (aSlot 15 (aSlot 17 aNil)))))) (bTup 2 (bCons (bName 12) (bCons (bName 13) bNil)))
    (dFor (dWSeq (ice (dCall sem_lacings (aSlot 1 (aSlot 16 (aSlot 18 aNil)))))) (bTup 2 (bCons (bName 19) (bCons (bName 20) bNil)))
    (dExp (ice (dCall sem_law_put (aSlot 11 (aVal (ofF (dTup (dCons (dVar 12) (dCons (dVar 19) dNil)))) (aVal (ofF (dBin mulD (dVar 13) (dVar 20))) aNil))))))))))
    (dSeq (dIfS (dTst (dBin (eqA true) (dVar 10) (dVar 11))) (dRet (ofF (dC (.bl false)))) dNext)
    (dSeq (dSet 21 (dBI sortB (aVal (dLc (dWSeq (dVar 5)) (bTup 2 (bCons (bName 12) (bCons (bName 13) bNil))) dYes (dTup (dCons (ice (dRev (dVar 12))) (dCons (dVar 13) dNil))) [12, 13]) aNil)))
    (dSeq (dIfS (dTst (dBin (eqA true) (ice (dCall sem_turned_word (aSlot 1 (aSlot 2 aNil)))) (ice (dRev (dVar 2))))) (dRet (ofF (dC (.bl false)))) dNext)
    (dSeq (dIfS (dTst (dBin (eqA true) (ice (dCall sem_lacings (aSlot 1 (aVal (dRev (dVar 2)) (aVal (dCallK 2 sem_turned_word [1, 0] (aSlot 3 (aSlot 1 aNil))) aNil))))) (dVar 21))) (dRet (ofF (dC (.bl false)))) dNext)
    (dRet (ofF (dAndV (dBin (eqA false) (ice (dCall sem_lacings (aSlot 1 (aSlot 2 (aVal (ofF (dTup dNil)) aNil))))) (ice (dLst (dCons (dTup (dCons (dVar 2) (dCons (dC (.int 1)) dNil))) dNil)))) (dBin (eqA false) (ice (dCallK 3 sem_lacings [2, 1, 0] (aSlot 2 (aVal (ofF (dTup dNil)) (aSlot 1 aNil))))) (ice (dLst (dCons (dTup (dCons (dVar 2) (dCons (dC (.int 1)) dNil))) dNil)))))))))))))))))))))
def sem_law_right : Sem := semOf 1 22 [0] t_law_right
abbrev s_law : Stmt := top 40
abbrev N_law : List Str := ["_law_script"]
def t_law : TM :=
    (dRet (dCall sem_law_right (aVal (dCall sem_law_pot (aSlot 0 (aVal (ofF (dC (.int 0))) aNil))) aNil)))
def sem_law : Sem := semOf 1 1 [0] t_law
structure Txt (K : PySem.W.Frag) (mg : Str → Option Value) : Prop where
  f_abs : mg "abs" = none
  f_all : mg "all" = none
  f_bool : mg "bool" = none
  f_divmod : mg "divmod" = none
  f_enumerate : mg "enumerate" = none
  f_int : mg "int" = none
  f_isinstance : mg "isinstance" = none
  f_len : mg "len" = none
  f_list : mg "list" = none
  f_max : mg "max" = none
  f_range : mg "range" = none
  f_sorted : mg "sorted" = none
  f_tuple : mg "tuple" = none
  f_zip : mg "zip" = none
  i_MOST_COLUMNS : ∃ t, mg "MOST_COLUMNS" = some (.int 3 t)
  i_MOST_LETTERS : ∃ t, mg "MOST_LETTERS" = some (.int 8 t)
  i_MOST_POWER : ∃ t, mg "MOST_POWER" = some (.int 8 t)
  i_MOST_WAYS : ∃ t, mg "MOST_WAYS" = some (.int 400 t)
  g_law_pot : ∃ f fd, FunD K "_law_pot" "_law_pot" (defArgs s_law_pot) (defBody s_law_pot) (defScope s_law_pot) [] [] f fd ∧ mg "_law_pot" = some (.ref f)
  g_law_draw : ∃ f fd, FunD K "_law_draw" "_law_draw" (defArgs s_law_draw) (defBody s_law_draw) (defScope s_law_draw) [] [] f fd ∧ mg "_law_draw" = some (.ref f)
  g_law_at : ∃ f fd, FunD K "_law_at" "_law_at" (defArgs s_law_at) (defBody s_law_at) (defScope s_law_at) [] [] f fd ∧ mg "_law_at" = some (.ref f)
  g_law_choices : ∃ f fd, FunD K "_law_choices" "_law_choices" (defArgs s_law_choices) (defBody s_law_choices) (defScope s_law_choices) [] [] f fd ∧ mg "_law_choices" = some (.ref f)
  g_law_laced : ∃ f fd, FunD K "_law_laced" "_law_laced" (defArgs s_law_laced) (defBody s_law_laced) (defScope s_law_laced) [] [] f fd ∧ mg "_law_laced" = some (.ref f)
  g_law_put : ∃ f fd, FunD K "_law_put" "_law_put" (defArgs s_law_put) (defBody s_law_put) (defScope s_law_put) [] [] f fd ∧ mg "_law_put" = some (.ref f)
  g_letters_times : ∃ f fd, FunD K "letters_times" "letters_times" (defArgs s_letters_times) (defBody s_letters_times) (defScope s_letters_times) [] [] f fd ∧ mg "letters_times" = some (.ref f)
  g_put_longer : ∃ f fd, FunD K "put_longer" "put_longer" (defArgs s_put_longer) (defBody s_put_longer) (defScope s_put_longer) [] [] f fd ∧ mg "put_longer" = some (.ref f)
  g_laced : ∃ f fd, FunD K "laced" "laced" (defArgs s_laced) (defBody s_laced) (defScope s_laced) [] [] f fd ∧ mg "laced" = some (.ref f)
  g_want_at_most : ∃ f fd, FunD K "want_at_most" "want_at_most" (defArgs s_want_at_most) (defBody s_want_at_most) (defScope s_want_at_most) [] [] f fd ∧ mg "want_at_most" = some (.ref f)
  g_is_integer : ∃ f fd, FunD K "is_integer" "is_integer" (defArgs s_is_integer) (defBody s_is_integer) (defScope s_is_integer) [] [] f fd ∧ mg "is_integer" = some (.ref f)
  g_is_count : ∃ f fd, FunD K "is_count" "is_count" (defArgs s_is_count) (defBody s_is_count) (defScope s_is_count) [] [] f fd ∧ mg "is_count" = some (.ref f)
  g_want_columns : ∃ f fd, FunD K "want_columns" "want_columns" (defArgs s_want_columns) (defBody s_want_columns) (defScope s_want_columns) [] [] f fd ∧ mg "want_columns" = some (.ref f)
  g_is_letter_of : ∃ f fd, FunD K "is_letter_of" "is_letter_of" (defArgs s_is_letter_of) (defBody s_is_letter_of) (defScope s_is_letter_of) [] [] f fd ∧ mg "is_letter_of" = some (.ref f)
  g_is_word_of : ∃ f fd, FunD K "is_word_of" "is_word_of" (defArgs s_is_word_of) (defBody s_is_word_of) (defScope s_is_word_of) [] [] f fd ∧ mg "is_word_of" = some (.ref f)
  g_want_word : ∃ f fd, FunD K "want_word" "want_word" (defArgs s_want_word) (defBody s_want_word) (defScope s_want_word) [] [] f fd ∧ mg "want_word" = some (.ref f)
  g_ways_many : ∃ f fd, FunD K "ways_many" "ways_many" (defArgs s_ways_many) (defBody s_ways_many) (defScope s_ways_many) [] [] f fd ∧ mg "ways_many" = some (.ref f)
  g_lacings : ∃ f fd, FunD K "lacings" "lacings" (defArgs s_lacings) (defBody s_lacings) (defScope s_lacings) [] [] f fd ∧ mg "lacings" = some (.ref f)
  g_law_further : ∃ f fd, FunD K "_law_further" "_law_further" (defArgs s_law_further) (defBody s_law_further) (defScope s_law_further) [] [] f fd ∧ mg "_law_further" = some (.ref f)
  g_law_letter : ∃ f fd, FunD K "_law_letter" "_law_letter" (defArgs s_law_letter) (defBody s_law_letter) (defScope s_law_letter) [] [] f fd ∧ mg "_law_letter" = some (.ref f)
  g_law_word : ∃ f fd, FunD K "_law_word" "_law_word" (defArgs s_law_word) (defBody s_law_word) (defScope s_law_word) [] [] f fd ∧ mg "_law_word" = some (.ref f)
  g_word_cuts : ∃ f fd, FunD K "word_cuts" "word_cuts" (defArgs s_word_cuts) (defBody s_word_cuts) (defScope s_word_cuts) [] [] f fd ∧ mg "word_cuts" = some (.ref f)
  g_cuts : ∃ f fd, FunD K "cuts" "cuts" (defArgs s_cuts) (defBody s_cuts) (defScope s_cuts) [] [] f fd ∧ mg "cuts" = some (.ref f)
  g_turned_word : ∃ f fd, FunD K "turned_word" "turned_word" (defArgs s_turned_word) (defBody s_turned_word) (defScope s_turned_word) [] [] f fd ∧ mg "turned_word" = some (.ref f)
  g_law_right : ∃ f fd, FunD K "_law_right" "_law_right" (defArgs s_law_right) (defBody s_law_right) (defScope s_law_right) [] [] f fd ∧ mg "_law_right" = some (.ref f)
  g_law : ∃ f fd, FunD K "law" "law" (defArgs s_law) (defBody s_law) (defScope s_law) [] [] f fd ∧ mg "law" = some (.ref f)
section
variable {P : Program} {w : World} {K : PySem.W.Frag} {mg : Str → Option Value} {base : Heap}
theorem sc_law_pot : FnScope N_law_pot ["_law_script", "_law_k"] (defScope s_law_pot) := ⟨rfl, rfl, rfl, by decide +kernel, rfl, by decide +kernel, by decide +kernel⟩
theorem ok_law_pot (T : Txt K mg) : CalD P w K mg base 1 "_law_pot" s_law_pot ["_law_script", "_law_k"] sem_law_pot := by
  obtain ⟨f, fd, F, hm⟩ := T.g_law_pot
  refine calD (N := N_law_pot) (fx := [0, 1]) F hm sc_law_pot (by decide) (by decide) (fun _ _ _ _ _ _ us hl => match us, hl with | [_, _], _ => rfl) fun cdv A outer s H E hr => ?_
  have hu := room64 hr
  have hu8 := room80 hr
  exact (ds_cons (ds_setN (i := 2) sc_law_pot.nd (dv_if (dt_cmp (op_ltD) (df_var (pv 1)) (df_ice (dv_bi (ca_len) rfl T.f_len rfl (dr_slot (pv 0) dr_nil))) (nomark _)) (dv_bi (ca_abs) rfl T.f_abs rfl (dr_val (dv_of (df_ixv (pv 0) (df_var (pv 1)))) dr_nil)) (dv_of (df_op op_addD (df_op op_mulD df_int (df_var (pv 1))) df_int))))
    (ds_one (ds_ret (dv_lst (da_cons (df_ice (dv_bi (ca_max rfl) rfl T.f_max rfl (dr_val (dv_of df_int) (dr_val (dv_of (df_op op_subD (df_var (pv 2)) (df_op op_powD df_int df_int))) dr_nil)))) (da_cons (df_op op_addD (df_op op_modD (df_ice (dv_ty (ca_int) rfl T.f_int rfl (dr_val (dv_of (df_op op_addD (df_op op_addD (df_op op_mulD (df_op op_modD (df_ice (dv_ty (ca_int) rfl T.f_int rfl (dr_slot (pv 2) dr_nil))) df_int) df_int) (df_op op_mulD df_int (df_var (pv 1)))) df_int)) dr_nil))) df_int) df_int) da_nil))))))
theorem sc_law_draw : FnScope N_law_draw ["_law_pot_here", "_law_many"] (defScope s_law_draw) := ⟨rfl, rfl, rfl, by decide +kernel, rfl, by decide +kernel, by decide +kernel⟩
theorem ok_law_draw (T : Txt K mg) : CalD P w K mg base 1 "_law_draw" s_law_draw ["_law_pot_here", "_law_many"] sem_law_draw := by
  obtain ⟨f, fd, F, hm⟩ := T.g_law_draw
  refine calD (N := N_law_draw) (fx := [0, 1]) F hm sc_law_draw (by decide) (by decide) (fun _ _ _ _ _ _ us hl => match us, hl with | [_, _], _ => rfl) fun cdv A outer s H E hr => ?_
  have hu := room64 hr
  have hu8 := room80 hr
  exact (ds_cons (ds_if (dt_cmp (op_gtD) (df_ixv (pv 0) df_int) df_int (nomark _)) (ds_cons (ds_asg (df_ice (dv_bi (ca_divmod) rfl T.f_divmod rfl (dr_val (dv_of (df_ixv (pv 0) df_int)) (dr_slot (pv 1) dr_nil)))) (dg_tup rfl (dgs_cons (dg_sub hu (pv 0) df_int) (dgs_cons (dg_nm (i := 2) sc_law_draw.nd) dgs_nil))))
    (ds_one (ds_ret (dv_take (pv 2))))) ds_nil)
    (ds_cons (ds_asg (df_op op_modD (df_ice (dv_ty (ca_int) rfl T.f_int rfl (dr_val (dv_of (df_op op_addD (df_op op_mulD (df_ixv (pv 0) df_int) df_int) df_int)) dr_nil))) df_int) (dg_sub hu (pv 0) df_int))
    (ds_one (ds_ret (dv_of (df_op op_modD (df_ice (dv_ty (ca_int) rfl T.f_int rfl (dr_val (dv_of (df_op op_fdivD (df_op op_modD (df_ice (dv_ty (ca_int) rfl T.f_int rfl (dr_val (dv_of (df_op op_mulD (df_ixv (pv 0) df_int) (df_ixv (pv 0) df_int))) dr_nil))) df_int) df_int)) dr_nil))) (df_var (pv 1))))))))
theorem sc_law_at : FnScope N_law_at ["_law_one", "_law_near", "_law_far", "_law_other", "_law_at_here"] (defScope s_law_at) := ⟨rfl, rfl, rfl, by decide +kernel, rfl, by decide +kernel, by decide +kernel⟩
theorem ok_law_at (T : Txt K mg) : CalD P w K mg base 1 "_law_at" s_law_at ["_law_one", "_law_near", "_law_far", "_law_other", "_law_at_here"] sem_law_at := by
  obtain ⟨f, fd, F, hm⟩ := T.g_law_at
  refine calD (N := N_law_at) (fx := [0, 1, 2, 3, 4]) F hm sc_law_at (by decide) (by decide) (fun _ _ _ _ _ _ us hl => match us, hl with | [_, _, _, _, _], _ => rfl) fun cdv A outer s H E hr => ?_
  have hu := room64 hr
  have hu8 := room80 hr
  exact (ds_cons (ds_if (dt_cmpS (op_notInD hu) (df_var (pv 4)) (pv 2)) (ds_one (ds_ret (dv_of (df_ixv (pv 0) (df_idx (pv 1) (df_var (pv 4))))))) ds_nil)
    (ds_cons (ds_if (dt_cmpS (op_notInD hu) (df_var (pv 4)) (pv 1)) (ds_one (ds_ret (dv_of (df_ixv (pv 3) (df_idx (pv 2) (df_var (pv 4))))))) ds_nil)
    (ds_one (ds_ret (dv_ty (ca_tuple) rfl T.f_tuple rfl (dr_val (dv_lc (own := [("_law_a", 5), ("_law_b", 6)]) (fxc := [0, 1, 2, 3, 4]) (fxOk (N := N_law_at) (by decide +kernel)) rfl sc_law_at.nd (di_zip rfl T.f_zip (df_ixv (pv 0) (df_idx (pv 1) (df_var (pv 4)))) (df_ixv (pv 3) (df_idx (pv 2) (df_var (pv 4))))) (blkOk_by (N := N_law_at) (sc := defScope s_law_at) (by decide +kernel)) (fun _ _ _ _ _ => (dg_tup rfl (dgs_cons (dg_nm (i := 5) sc_law_at.nd) (dgs_cons (dg_nm (i := 6) sc_law_at.nd) dgs_nil)))) (fun _ _ _ _ _ => dts_nil) (fun _ _ _ _ _ => (df_op op_addD (df_var (pv 5)) (df_var (pv 6))))) dr_nil))))))
theorem sc_law_choices : FnScope N_law_choices ["_law_below", "_law_many"] (defScope s_law_choices) := ⟨rfl, rfl, rfl, by decide +kernel, rfl, by decide +kernel, by decide +kernel⟩
theorem ok_law_choices (T : Txt K mg) : CalD P w K mg base 1 "_law_choices" s_law_choices ["_law_below", "_law_many"] sem_law_choices := by
  obtain ⟨f, fd, F, hm⟩ := T.g_law_choices
  refine calD (N := N_law_choices) (fx := [0, 1]) F hm sc_law_choices (by decide) (by decide) (fun _ _ _ _ _ _ us hl => match us, hl with | [_, _], _ => rfl) fun cdv A outer s H E hr => ?_
  have hu := room64 hr
  have hu8 := room80 hr
  exact (ds_cons (ds_setN (i := 2) sc_law_choices.nd (dv_lst (da_cons (df_ice (dv_lst da_nil)) da_nil)))
    (ds_cons (ds_for PassesOwn.never rfl (di_range1 rfl T.f_range (df_var (pv 1))) (dg_nm (i := 3) sc_law_choices.nd)
    (ds_cons (ds_setN (i := 4) sc_law_choices.nd (dv_lst da_nil))
    (ds_cons (ds_for PassesOwn.never rfl (di_seq (df_var (pv 2))) (dg_nm (i := 5) sc_law_choices.nd)
    (ds_one (ds_expr (df_ext (pv 4) (df_ice (dv_lc (own := [("_law_at_here", 6)]) (fxc := [0, 1, 2, 3, 4, 5]) (fxOk (N := N_law_choices) (by decide +kernel)) rfl sc_law_choices.nd (di_range2 rfl T.f_range (df_if (dt_cmp (op_neA hu8) (df_var (pv 5)) (df_ice (dv_lst da_nil)) (nomark _)) (df_op op_addD (df_ixv (pv 5) (df_neg df_int)) df_int) df_int) (df_var (pv 0))) (blkOk_by (N := N_law_choices) (sc := defScope s_law_choices) (by decide +kernel)) (fun _ _ _ _ _ => (dg_nm (i := 6) sc_law_choices.nd)) (fun _ _ _ _ _ => dts_nil) (fun _ _ _ _ _ => (df_op op_addD (df_var (pv 5)) (df_ice (dv_lst (da_cons (df_var (pv 6)) da_nil)))))))))))
    (ds_one (ds_setN (i := 2) sc_law_choices.nd (dv_take (pv 4)))))))
    (ds_one (ds_ret (dv_take (pv 2))))))
theorem sc_law_laced : FnScope N_law_laced ["_law_one", "_law_other"] (defScope s_law_laced) := ⟨rfl, rfl, rfl, by decide +kernel, rfl, by decide +kernel, by decide +kernel⟩
theorem ok_law_laced (T : Txt K mg) : CalD P w K mg base 2 "_law_laced" s_law_laced ["_law_one", "_law_other"] sem_law_laced := by
  obtain ⟨f, fd, F, hm⟩ := T.g_law_laced
  have c_law_at : CalD P w K mg base 1 "_law_at" s_law_at ["_law_one", "_law_near", "_law_far", "_law_other", "_law_at_here"] sem_law_at := ok_law_at T
  have c_law_choices : CalD P w K mg base 1 "_law_choices" s_law_choices ["_law_below", "_law_many"] sem_law_choices := ok_law_choices T
  refine calD (N := N_law_laced) (fx := [0, 1]) F hm sc_law_laced (by decide) (by decide) (fun _ _ _ _ _ _ us hl => match us, hl with | [_, _], _ => rfl) fun cdv A outer s H E hr => ?_
  have hu := room64 hr
  have hu8 := room80 hr
  exact (ds_cons (ds_setN (i := 2) sc_law_laced.nd dv_dnew)
    (ds_cons (ds_for PassesOwn.never rfl (di_range2 rfl T.f_range (df_ice (dv_bi (ca_max rfl) rfl T.f_max rfl (dr_val (dv_bi (ca_len) rfl T.f_len rfl (dr_slot (pv 0) dr_nil)) (dr_val (dv_bi (ca_len) rfl T.f_len rfl (dr_slot (pv 1) dr_nil)) dr_nil)))) (df_op op_addD (df_op op_addD (df_ice (dv_bi (ca_len) rfl T.f_len rfl (dr_slot (pv 0) dr_nil))) (df_ice (dv_bi (ca_len) rfl T.f_len rfl (dr_slot (pv 1) dr_nil)))) df_int)) (dg_nm (i := 3) sc_law_laced.nd)
    (ds_one (ds_for PassesOwn.never rfl (di_seq (df_ice (dv_cal c_law_choices (hr.mono (by decide)) (dr_slot (pv 3) (dr_val (dv_bi (ca_len) rfl T.f_len rfl (dr_slot (pv 0) dr_nil)) dr_nil))))) (dg_nm (i := 4) sc_law_laced.nd)
    (ds_one (ds_for PassesOwn.never rfl (di_seq (df_ice (dv_cal c_law_choices (hr.mono (by decide)) (dr_slot (pv 3) (dr_val (dv_bi (ca_len) rfl T.f_len rfl (dr_slot (pv 1) dr_nil)) dr_nil))))) (dg_nm (i := 5) sc_law_laced.nd)
    (ds_one (ds_if (dt_val (df_ice (dv_bi (ca_all rfl) rfl T.f_all rfl (dr_val (dv_lc (own := [("_law_at_here", 7)]) (fxc := [0, 1, 2, 3, 4, 5, 6]) (fxOk (N := N_law_laced) (by decide +kernel)) rfl sc_law_laced.nd (di_range1 rfl T.f_range (df_var (pv 3))) (blkOk_by (N := N_law_laced) (sc := defScope s_law_laced) (by decide +kernel)) (fun _ _ _ _ _ => (dg_nm (i := 7) sc_law_laced.nd)) (fun _ _ _ _ _ => dts_nil) (fun _ _ _ _ _ => (df_or (df_cmpS (op_inD hu) (df_var (pv 7)) (pv 4)) (df_one (df_cmpS (op_inD hu) (df_var (pv 7)) (pv 5)))))) dr_nil)))) (ds_cons (ds_setN (i := 6) sc_law_laced.nd (dv_ty (ca_tuple) rfl T.f_tuple rfl (dr_val (dv_lc (own := [("_law_at_here", 7)]) (fxc := [0, 1, 2, 3, 4, 5, 6]) (fxOk (N := N_law_laced) (by decide +kernel)) rfl sc_law_laced.nd (di_range1 rfl T.f_range (df_var (pv 3))) (blkOk_by (N := N_law_laced) (sc := defScope s_law_laced) (by decide +kernel)) (fun _ _ _ _ _ => (dg_nm (i := 7) sc_law_laced.nd)) (fun _ _ _ _ _ => dts_nil) (fun _ _ _ _ _ => (df_ice (dv_cal c_law_at (hr.mono (by decide)) (dr_slot (pv 0) (dr_slot (pv 4) (dr_slot (pv 5) (dr_slot (pv 1) (dr_slot (pv 7) dr_nil))))))))) dr_nil)))
    (ds_one (ds_asg (df_op op_addD (df_get2 hu (pv 2) (df_var (pv 6)) df_int ⟨rfl, rfl, rfl, rfl⟩) df_int) (dg_sub hu (pv 2) (df_var (pv 6)))))) ds_nil)))))))
    (ds_one (ds_ret (dv_take (pv 2))))))
theorem sc_law_put : FnScope N_law_put ["_law_found", "_law_key", "_law_often"] (defScope s_law_put) := ⟨rfl, rfl, rfl, by decide +kernel, rfl, by decide +kernel, by decide +kernel⟩
theorem ok_law_put (T : Txt K mg) : CalD P w K mg base 1 "_law_put" s_law_put ["_law_found", "_law_key", "_law_often"] sem_law_put := by
  obtain ⟨f, fd, F, hm⟩ := T.g_law_put
  refine calD (N := N_law_put) (fx := [0, 1, 2]) F hm sc_law_put (by decide) (by decide) (fun _ _ _ _ _ _ us hl => match us, hl with | [_, _, _], _ => rfl) fun cdv A outer s H E hr => ?_
  have hu := room64 hr
  have hu8 := room80 hr
  exact (ds_one (ds_asg (df_op op_addD (df_get2 hu (pv 0) (df_var (pv 1)) df_int ⟨rfl, rfl, rfl, rfl⟩) (df_var (pv 2))) (dg_sub hu (pv 0) (df_var (pv 1)))))
theorem sc_letters_times : FnScope N_letters_times ["letter", "other"] (defScope s_letters_times) := ⟨rfl, rfl, rfl, by decide +kernel, rfl, by decide +kernel, by decide +kernel⟩
theorem ok_letters_times (T : Txt K mg) : CalD P w K mg base 1 "letters_times" s_letters_times ["letter", "other"] sem_letters_times := by
  obtain ⟨f, fd, F, hm⟩ := T.g_letters_times
  refine calD (N := N_letters_times) (fx := [0, 1]) F hm sc_letters_times (by decide) (by decide) (fun _ _ _ _ _ _ us hl => match us, hl with | [_, _], _ => rfl) fun cdv A outer s H E hr => ?_
  have hu := room64 hr
  have hu8 := room80 hr
  exact (ds_one (ds_ret (dv_ty (ca_tuple) rfl T.f_tuple rfl (dr_val (dv_lc (own := [("one", 2), ("two", 3)]) (fxc := [0, 1]) (fxOk (N := N_letters_times) (by decide +kernel)) rfl sc_letters_times.nd (di_zip rfl T.f_zip (df_var (pv 0)) (df_var (pv 1))) (blkOk_by (N := N_letters_times) (sc := defScope s_letters_times) (by decide +kernel)) (fun _ _ _ _ _ => (dg_tup rfl (dgs_cons (dg_nm (i := 2) sc_letters_times.nd) (dgs_cons (dg_nm (i := 3) sc_letters_times.nd) dgs_nil)))) (fun _ _ _ _ _ => dts_nil) (fun _ _ _ _ _ => (df_op op_addD (df_var (pv 2)) (df_var (pv 3))))) dr_nil))))
theorem sc_put_longer : FnScope N_put_longer ["found", "some", "letter"] (defScope s_put_longer) := ⟨rfl, rfl, rfl, by decide +kernel, rfl, by decide +kernel, by decide +kernel⟩
theorem ok_put_longer (T : Txt K mg) : CalD P w K mg base 1 "put_longer" s_put_longer ["found", "some", "letter"] sem_put_longer := by
  obtain ⟨f, fd, F, hm⟩ := T.g_put_longer
  refine calD (N := N_put_longer) (fx := [0, 1, 2]) F hm sc_put_longer (by decide) (by decide) (fun _ _ _ _ _ _ us hl => match us, hl with | [_, _, _], _ => rfl) fun cdv A outer s H E hr => ?_
  have hu := room64 hr
  have hu8 := room80 hr
  exact (ds_one (ds_for PassesOwn.never rfl (di_items (df_var (pv 1))) (dg_tup rfl (dgs_cons (dg_nm (i := 3) sc_put_longer.nd) (dgs_cons (dg_nm (i := 4) sc_put_longer.nd) dgs_nil)))
    (ds_cons (ds_setN (i := 5) sc_put_longer.nd (dv_of (df_op op_addD (df_var (pv 3)) (df_tup (da_cons (df_var (pv 2)) da_nil)))))
    (ds_one (ds_asg (df_op op_addD (df_get2 hu (pv 0) (df_var (pv 5)) df_int ⟨rfl, rfl, rfl, rfl⟩) (df_var (pv 4))) (dg_sub hu (pv 0) (df_var (pv 5))))))))
theorem sc_laced : FnScope N_laced ["word", "other"] (defScope s_laced) := ⟨rfl, rfl, rfl, by decide +kernel, rfl, by decide +kernel, by decide +kernel⟩
theorem ok_laced (T : Txt K mg) : CalD P w K mg base 2 "laced" s_laced ["word", "other"] sem_laced := by
  obtain ⟨f, fd, F, hm⟩ := T.g_laced
  have c_letters_times : CalD P w K mg base 1 "letters_times" s_letters_times ["letter", "other"] sem_letters_times := ok_letters_times T
  have c_put_longer : CalD P w K mg base 1 "put_longer" s_put_longer ["found", "some", "letter"] sem_put_longer := ok_put_longer T
  refine calD (N := N_laced) (fx := [0, 1]) F hm sc_laced (by decide) (by decide) (fun _ _ _ _ _ _ us hl => match us, hl with | [_, _], _ => rfl) fun cdv A outer s H E hr => ?_
  have hu := room64 hr
  have hu8 := room80 hr
  exact (ds_cons (ds_setLc (i := 2) (own := [("at", 3)]) (fxc := [0, 1, 2, 4, 5, 6, 7, 8]) (fxOk (N := N_laced) (by decide +kernel)) rfl sc_laced.nd rfl rfl (sw_true rfl rfl rfl (by decide +kernel)) (di_range1 rfl T.f_range (df_op op_addD (df_ice (dv_bi (ca_len) rfl T.f_len rfl (dr_slot (pv 1) dr_nil))) df_int)) (blkOk_by (N := N_laced) (sc := defScope s_laced) (by decide +kernel)) (fun _ _ _ _ _ => (dg_nm (i := 3) sc_laced.nd)) (fun _ _ _ _ _ => dts_nil) (fun _ _ _ _ _ => (df_ice (dv_disp1 hu (df_ice (dv_slice (df_var (pv 1)) do_none (do_some (df_var (pv 3))))) df_int))))
    (ds_cons (ds_for PassesOwn.never rfl (di_enum rfl T.f_enumerate (df_var (pv 0))) (dg_tup rfl (dgs_cons (dg_nm (i := 3) sc_laced.nd) (dgs_cons (dg_nm (i := 4) sc_laced.nd) dgs_nil)))
    (ds_cons (ds_setN (i := 5) sc_laced.nd (dv_lst (da_cons (df_ice (dv_disp1 hu (df_ice (dv_slice (df_var (pv 0)) do_none (do_some (df_op op_addD (df_var (pv 3)) df_int)))) df_int)) da_nil)))
    (ds_cons (ds_for PassesOwn.never rfl (di_enum rfl T.f_enumerate (df_var (pv 1))) (dg_tup rfl (dgs_cons (dg_nm (i := 6) sc_laced.nd) (dgs_cons (dg_nm (i := 7) sc_laced.nd) dgs_nil)))
    (ds_cons (ds_setN (i := 8) sc_laced.nd dv_dnew)
    (ds_cons (ds_expr (df_ice (dv_cal c_put_longer (hr.mono (by decide)) (dr_slot (pv 8) (dr_val (dv_of (df_ixv (pv 2) (df_op op_addD (df_var (pv 6)) df_int))) (dr_slot (pv 4) dr_nil))))))
    (ds_cons (ds_expr (df_ice (dv_cal c_put_longer (hr.mono (by decide)) (dr_slot (pv 8) (dr_val (dv_of (df_ixv (pv 5) (df_var (pv 6)))) (dr_slot (pv 7) dr_nil))))))
    (ds_cons (ds_expr (df_ice (dv_cal c_put_longer (hr.mono (by decide)) (dr_slot (pv 8) (dr_val (dv_of (df_ixv (pv 2) (df_var (pv 6)))) (dr_val (dv_cal c_letters_times (hr.mono (by decide)) (dr_slot (pv 4) (dr_slot (pv 7) dr_nil))) dr_nil))))))
    (ds_one (ds_expr (df_app (pv 5) (df_var (pv 8))))))))))
    (ds_one (ds_setN (i := 2) sc_laced.nd (dv_take (pv 5)))))))
    (ds_one (ds_ret (dv_of (df_ixv (pv 2) (df_neg df_int)))))))
theorem sc_want_at_most : FnScope N_want_at_most ["what", "limit", "number"] (defScope s_want_at_most) := ⟨rfl, rfl, rfl, by decide +kernel, rfl, by decide +kernel, by decide +kernel⟩
theorem ok_want_at_most (T : Txt K mg) : CalD P w K mg base 1 "want_at_most" s_want_at_most ["what", "limit", "number"] sem_want_at_most := by
  obtain ⟨f, fd, F, hm⟩ := T.g_want_at_most
  refine calD (N := N_want_at_most) (fx := [0, 1, 2]) F hm sc_want_at_most (by decide) (by decide) (fun _ _ _ _ _ _ us hl => match us, hl with | [_, _, _], _ => rfl) fun cdv A outer s H E hr => ?_
  have hu := room64 hr
  have hu8 := room80 hr
  exact (ds_one (ds_if (dt_cmp (op_gtD) (df_var (pv 2)) (df_var (pv 1)) (nomark _)) (ds_one ds_never) ds_nil))
theorem sc_is_integer : FnScope N_is_integer ["value"] (defScope s_is_integer) := ⟨rfl, rfl, rfl, by decide +kernel, rfl, by decide +kernel, by decide +kernel⟩
theorem ok_is_integer (T : Txt K mg) : CalD P w K mg base 1 "is_integer" s_is_integer ["value"] sem_is_integer := by
  obtain ⟨f, fd, F, hm⟩ := T.g_is_integer
  refine calD (N := N_is_integer) (fx := [0]) F hm sc_is_integer (by decide) (by decide) (fun _ _ _ _ _ _ us hl => match us, hl with | [_], _ => rfl) fun cdv A outer s H E hr => ?_
  have hu := room64 hr
  have hu8 := room80 hr
  exact (ds_one (ds_ret (dv_of (df_and (df_isI T.f_isinstance T.f_int (pv 0)) (df_one (df_not (df_isI T.f_isinstance T.f_bool (pv 0))))))))
theorem sc_is_count : FnScope N_is_count ["value"] (defScope s_is_count) := ⟨rfl, rfl, rfl, by decide +kernel, rfl, by decide +kernel, by decide +kernel⟩
theorem ok_is_count (T : Txt K mg) : CalD P w K mg base 2 "is_count" s_is_count ["value"] sem_is_count := by
  obtain ⟨f, fd, F, hm⟩ := T.g_is_count
  have c_is_integer : CalD P w K mg base 1 "is_integer" s_is_integer ["value"] sem_is_integer := ok_is_integer T
  refine calD (N := N_is_count) (fx := [0]) F hm sc_is_count (by decide) (by decide) (fun _ _ _ _ _ _ us hl => match us, hl with | [_], _ => rfl) fun cdv A outer s H E hr => ?_
  have hu := room64 hr
  have hu8 := room80 hr
  exact (ds_one (ds_ret (dv_of (df_and (df_ice (dv_cal c_is_integer (hr.mono (by decide)) (dr_slot (pv 0) dr_nil))) (df_one (df_cmp (op_geD) (df_var (pv 0)) df_int (nomark _)))))))
theorem sc_want_columns : FnScope N_want_columns ["value"] (defScope s_want_columns) := ⟨rfl, rfl, rfl, by decide +kernel, rfl, by decide +kernel, by decide +kernel⟩
theorem ok_want_columns (T : Txt K mg) : CalD P w K mg base 3 "want_columns" s_want_columns ["value"] sem_want_columns := by
  obtain ⟨f, fd, F, hm⟩ := T.g_want_columns
  have c_is_count : CalD P w K mg base 2 "is_count" s_is_count ["value"] sem_is_count := ok_is_count T
  refine calD (N := N_want_columns) (fx := [0]) F hm sc_want_columns (by decide) (by decide) (fun _ _ _ _ _ _ us hl => match us, hl with | [_], _ => rfl) fun cdv A outer s H E hr => ?_
  have hu := room64 hr
  have hu8 := room80 hr
  exact (ds_one (ds_if (dt_w (dw_or (dt_not (dt_val (df_ice (dv_cal c_is_count (hr.mono (by decide)) (dr_slot (pv 0) dr_nil))))) (dw_or1 (dt_cmp (op_gtD) (df_var (pv 0)) (df_gintE T.i_MOST_COLUMNS) (nomark _))))) (ds_one ds_never) ds_nil))
theorem sc_is_letter_of : FnScope N_is_letter_of ["columns", "value"] (defScope s_is_letter_of) := ⟨rfl, rfl, rfl, by decide +kernel, rfl, by decide +kernel, by decide +kernel⟩
theorem ok_is_letter_of (T : Txt K mg) : CalD P w K mg base 3 "is_letter_of" s_is_letter_of ["columns", "value"] sem_is_letter_of := by
  obtain ⟨f, fd, F, hm⟩ := T.g_is_letter_of
  have c_is_count : CalD P w K mg base 2 "is_count" s_is_count ["value"] sem_is_count := ok_is_count T
  refine calD (N := N_is_letter_of) (fx := [0, 1]) F hm sc_is_letter_of (by decide) (by decide) (fun _ _ _ _ _ _ us hl => match us, hl with | [_, _], _ => rfl) fun cdv A outer s H E hr => ?_
  have hu := room64 hr
  have hu8 := room80 hr
  exact (ds_cons (ds_if (dt_w (dw_or (dt_not (dt_val (df_isI T.f_isinstance T.f_tuple (pv 1)))) (dw_or1 (dt_cmp (op_neA hu8) (df_ice (dv_bi (ca_len) rfl T.f_len rfl (dr_slot (pv 1) dr_nil))) (df_var (pv 0)) (nomark _))))) (ds_one (ds_ret (dv_of df_bl))) ds_nil)
    (ds_one (ds_ret (dv_bi (ca_all rfl) rfl T.f_all rfl (dr_val (dv_lc (own := [("power", 2)]) (fxc := [0, 1]) (fxOk (N := N_is_letter_of) (by decide +kernel)) rfl sc_is_letter_of.nd (di_seq (df_var (pv 1))) (blkOk_by (N := N_is_letter_of) (sc := defScope s_is_letter_of) (by decide +kernel)) (fun _ _ _ _ _ => (dg_nm (i := 2) sc_is_letter_of.nd)) (fun _ _ _ _ _ => dts_nil) (fun _ _ _ _ _ => (df_and (df_ice (dv_cal c_is_count (hr.mono (by decide)) (dr_slot (pv 2) dr_nil))) (df_one (df_cmp (op_leD) (df_var (pv 2)) (df_gintE T.i_MOST_POWER) (nomark _)))))) dr_nil)))))
theorem sc_is_word_of : FnScope N_is_word_of ["columns", "value"] (defScope s_is_word_of) := ⟨rfl, rfl, rfl, by decide +kernel, rfl, by decide +kernel, by decide +kernel⟩
theorem ok_is_word_of (T : Txt K mg) : CalD P w K mg base 4 "is_word_of" s_is_word_of ["columns", "value"] sem_is_word_of := by
  obtain ⟨f, fd, F, hm⟩ := T.g_is_word_of
  have c_is_letter_of : CalD P w K mg base 3 "is_letter_of" s_is_letter_of ["columns", "value"] sem_is_letter_of := ok_is_letter_of T
  refine calD (N := N_is_word_of) (fx := [0, 1]) F hm sc_is_word_of (by decide) (by decide) (fun _ _ _ _ _ _ us hl => match us, hl with | [_, _], _ => rfl) fun cdv A outer s H E hr => ?_
  have hu := room64 hr
  have hu8 := room80 hr
  exact (ds_cons (ds_if (dt_w (dw_or (dt_not (dt_val (df_isI T.f_isinstance T.f_tuple (pv 1)))) (dw_or1 (dt_cmp (op_gtD) (df_ice (dv_bi (ca_len) rfl T.f_len rfl (dr_slot (pv 1) dr_nil))) (df_gintE T.i_MOST_LETTERS) (nomark _))))) (ds_one (ds_ret (dv_of df_bl))) ds_nil)
    (ds_one (ds_ret (dv_bi (ca_all rfl) rfl T.f_all rfl (dr_val (dv_lc (own := [("letter", 2)]) (fxc := [0, 1]) (fxOk (N := N_is_word_of) (by decide +kernel)) rfl sc_is_word_of.nd (di_seq (df_var (pv 1))) (blkOk_by (N := N_is_word_of) (sc := defScope s_is_word_of) (by decide +kernel)) (fun _ _ _ _ _ => (dg_nm (i := 2) sc_is_word_of.nd)) (fun _ _ _ _ _ => dts_nil) (fun _ _ _ _ _ => (df_ice (dv_cal c_is_letter_of (hr.mono (by decide)) (dr_slot (pv 0) (dr_slot (pv 2) dr_nil)))))) dr_nil)))))
theorem sc_want_word : FnScope N_want_word ["columns", "value"] (defScope s_want_word) := ⟨rfl, rfl, rfl, by decide +kernel, rfl, by decide +kernel, by decide +kernel⟩
theorem ok_want_word (T : Txt K mg) : CalD P w K mg base 5 "want_word" s_want_word ["columns", "value"] sem_want_word := by
  obtain ⟨f, fd, F, hm⟩ := T.g_want_word
  have c_is_word_of : CalD P w K mg base 4 "is_word_of" s_is_word_of ["columns", "value"] sem_is_word_of := ok_is_word_of T
  refine calD (N := N_want_word) (fx := [0, 1]) F hm sc_want_word (by decide) (by decide) (fun _ _ _ _ _ _ us hl => match us, hl with | [_, _], _ => rfl) fun cdv A outer s H E hr => ?_
  have hu := room64 hr
  have hu8 := room80 hr
  exact (ds_one (ds_if (dt_not (dt_val (df_ice (dv_cal c_is_word_of (hr.mono (by decide)) (dr_slot (pv 0) (dr_slot (pv 1) dr_nil)))))) (ds_one ds_never) ds_nil))
theorem sc_ways_many : FnScope N_ways_many ["many", "other"] (defScope s_ways_many) := ⟨rfl, rfl, rfl, by decide +kernel, rfl, by decide +kernel, by decide +kernel⟩
theorem ok_ways_many (T : Txt K mg) : CalD P w K mg base 1 "ways_many" s_ways_many ["many", "other"] sem_ways_many := by
  obtain ⟨f, fd, F, hm⟩ := T.g_ways_many
  refine calD (N := N_ways_many) (fx := [0, 1]) F hm sc_ways_many (by decide) (by decide) (fun _ _ _ _ _ _ us hl => match us, hl with | [_, _], _ => rfl) fun cdv A outer s H E hr => ?_
  have hu := room64 hr
  have hu8 := room80 hr
  exact (ds_cons (ds_setN (i := 2) sc_ways_many.nd (dv_of (df_op op_mulD (df_ice (dv_lst (da_cons df_int da_nil))) (df_op op_addD (df_var (pv 1)) df_int))))
    (ds_cons (ds_for PassesOwn.never rfl (di_range1 rfl T.f_range (df_var (pv 0))) (dg_nm (i := 3) sc_ways_many.nd)
    (ds_cons (ds_setN (i := 4) sc_ways_many.nd (dv_lst (da_cons df_int da_nil)))
    (ds_cons (ds_for PassesOwn.never rfl (di_range1 rfl T.f_range (df_var (pv 1))) (dg_nm (i := 5) sc_ways_many.nd)
    (ds_one (ds_expr (df_app (pv 4) (df_op op_addD (df_op op_addD (df_ixv (pv 4) (df_neg df_int)) (df_ixv (pv 2) (df_var (pv 5)))) (df_ixv (pv 2) (df_op op_addD (df_var (pv 5)) df_int)))))))
    (ds_one (ds_setN (i := 2) sc_ways_many.nd (dv_take (pv 4)))))))
    (ds_one (ds_ret (dv_of (df_ixv (pv 2) (df_neg df_int)))))))
theorem sc_lacings : FnScope N_lacings ["columns", "word", "other"] (defScope s_lacings) := ⟨rfl, rfl, rfl, by decide +kernel, rfl, by decide +kernel, by decide +kernel⟩
theorem ok_lacings (T : Txt K mg) : CalD P w K mg base 6 "lacings" s_lacings ["columns", "word", "other"] sem_lacings := by
  obtain ⟨f, fd, F, hm⟩ := T.g_lacings
  have c_laced : CalD P w K mg base 2 "laced" s_laced ["word", "other"] sem_laced := ok_laced T
  have c_want_at_most : CalD P w K mg base 1 "want_at_most" s_want_at_most ["what", "limit", "number"] sem_want_at_most := ok_want_at_most T
  have c_want_columns : CalD P w K mg base 3 "want_columns" s_want_columns ["value"] sem_want_columns := ok_want_columns T
  have c_want_word : CalD P w K mg base 5 "want_word" s_want_word ["columns", "value"] sem_want_word := ok_want_word T
  have c_ways_many : CalD P w K mg base 1 "ways_many" s_ways_many ["many", "other"] sem_ways_many := ok_ways_many T
  refine calD (N := N_lacings) (fx := [0, 1, 2]) F hm sc_lacings (by decide) (by decide) (fun _ _ _ _ _ _ us hl => match us, hl with | [_, _, _], _ => rfl) fun cdv A outer s H E hr => ?_
  have hu := room64 hr
  have hu8 := room80 hr
  exact (ds_cons (ds_expr (df_ice (dv_cal c_want_columns (hr.mono (by decide)) (dr_slot (pv 0) dr_nil))))
    (ds_cons (ds_expr (df_ice (dv_cal c_want_word (hr.mono (by decide)) (dr_slot (pv 0) (dr_slot (pv 1) dr_nil)))))
    (ds_cons (ds_expr (df_ice (dv_cal c_want_word (hr.mono (by decide)) (dr_slot (pv 0) (dr_slot (pv 2) dr_nil)))))
    (ds_cons (ds_expr (df_ice (dv_cal c_want_at_most (hr.mono (by decide)) (dr_val (dv_of df_str) (dr_val (dv_of (df_gintE T.i_MOST_WAYS)) (dr_val (dv_cal c_ways_many (hr.mono (by decide)) (dr_val (dv_bi (ca_len) rfl T.f_len rfl (dr_slot (pv 1) dr_nil)) (dr_val (dv_bi (ca_len) rfl T.f_len rfl (dr_slot (pv 2) dr_nil)) dr_nil))) dr_nil))))))
    (ds_one (ds_ret (dv_sortItems rfl hu (df_ice (dv_cal c_laced (hr.mono (by decide)) (dr_slot (pv 1) (dr_slot (pv 2) dr_nil)))) rfl T.f_sorted)))))))
theorem sc_law_further : FnScope N_law_further ["_law_columns", "_law_some", "_law_word_here", "_law_is_own"] (defScope s_law_further) := ⟨rfl, rfl, rfl, by decide +kernel, rfl, by decide +kernel, by decide +kernel⟩
theorem ok_law_further (T : Txt K mg) : CalD P w K mg base 7 "_law_further" s_law_further ["_law_columns", "_law_some", "_law_word_here", "_law_is_own"] sem_law_further := by
  obtain ⟨f, fd, F, hm⟩ := T.g_law_further
  have c_law_laced : CalD P w K mg base 2 "_law_laced" s_law_laced ["_law_one", "_law_other"] sem_law_laced := ok_law_laced T
  have c_law_put : CalD P w K mg base 1 "_law_put" s_law_put ["_law_found", "_law_key", "_law_often"] sem_law_put := ok_law_put T
  have c_lacings : CalD P w K mg base 6 "lacings" s_lacings ["columns", "word", "other"] sem_lacings := ok_lacings T
  refine calD (N := N_law_further) (fx := [0, 1, 2, 3]) F hm sc_law_further (by decide) (by decide) (fun _ _ _ _ _ _ us hl => match us, hl with | [_, _, _, _], _ => rfl) fun cdv A outer s H E hr => ?_
  have hu := room64 hr
  have hu8 := room80 hr
  exact (ds_cons (ds_setN (i := 4) sc_law_further.nd dv_dnew)
    (ds_cons (ds_for PassesOwn.never rfl (di_seq (df_var (pv 1))) (dg_tup rfl (dgs_cons (dg_nm (i := 5) sc_law_further.nd) (dgs_cons (dg_nm (i := 6) sc_law_further.nd) dgs_nil)))
    (ds_one (ds_for PassesOwn.never rfl (di_seq (df_if (dt_val (df_var (pv 3))) (df_ice (dv_listItems rfl (df_ice (dv_cal c_law_laced (hr.mono (by decide)) (dr_slot (pv 5) (dr_slot (pv 2) dr_nil)))) rfl T.f_list)) (df_ice (dv_cal c_lacings (hr.mono (by decide)) (dr_slot (pv 0) (dr_slot (pv 5) (dr_slot (pv 2) dr_nil))))))) (dg_tup rfl (dgs_cons (dg_nm (i := 7) sc_law_further.nd) (dgs_cons (dg_nm (i := 8) sc_law_further.nd) dgs_nil)))
    (ds_one (ds_expr (df_ice (dv_cal c_law_put (hr.mono (by decide)) (dr_slot (pv 4) (dr_slot (pv 7) (dr_val (dv_of (df_op op_mulD (df_var (pv 6)) (df_var (pv 8)))) dr_nil))))))))))
    (ds_one (ds_ret (dv_take (pv 4))))))
theorem sc_law_letter : FnScope N_law_letter ["_law_pot_here", "_law_columns", "_law_most"] (defScope s_law_letter) := ⟨rfl, rfl, rfl, by decide +kernel, rfl, by decide +kernel, by decide +kernel⟩
theorem ok_law_letter (T : Txt K mg) : CalD P w K mg base 2 "_law_letter" s_law_letter ["_law_pot_here", "_law_columns", "_law_most"] sem_law_letter := by
  obtain ⟨f, fd, F, hm⟩ := T.g_law_letter
  have c_law_draw : CalD P w K mg base 1 "_law_draw" s_law_draw ["_law_pot_here", "_law_many"] sem_law_draw := ok_law_draw T
  refine calD (N := N_law_letter) (fx := [0, 1, 2]) F hm sc_law_letter (by decide) (by decide) (fun _ _ _ _ _ _ us hl => match us, hl with | [_, _, _], _ => rfl) fun cdv A outer s H E hr => ?_
  have hu := room64 hr
  have hu8 := room80 hr
  exact (ds_cons (ds_setN (i := 3) sc_law_letter.nd (dv_lst da_nil))
    (ds_cons (ds_for PassesOwn.never rfl (di_range1 rfl T.f_range (df_var (pv 1))) (dg_nm (i := 4) sc_law_letter.nd)
    (ds_one (ds_expr (df_app (pv 3) (df_ice (dv_cal c_law_draw (hr.mono (by decide)) (dr_slot (pv 0) (dr_val (dv_of (df_op op_addD (df_var (pv 2)) df_int)) dr_nil))))))))
    (ds_one (ds_ret (dv_ty (ca_tuple) rfl T.f_tuple rfl (dr_slot (pv 3) dr_nil))))))
theorem sc_law_word : FnScope N_law_word ["_law_pot_here", "_law_columns", "_law_many"] (defScope s_law_word) := ⟨rfl, rfl, rfl, by decide +kernel, rfl, by decide +kernel, by decide +kernel⟩
theorem ok_law_word (T : Txt K mg) : CalD P w K mg base 3 "_law_word" s_law_word ["_law_pot_here", "_law_columns", "_law_many"] sem_law_word := by
  obtain ⟨f, fd, F, hm⟩ := T.g_law_word
  have c_law_letter : CalD P w K mg base 2 "_law_letter" s_law_letter ["_law_pot_here", "_law_columns", "_law_most"] sem_law_letter := ok_law_letter T
  refine calD (N := N_law_word) (fx := [0, 1, 2]) F hm sc_law_word (by decide) (by decide) (fun _ _ _ _ _ _ us hl => match us, hl with | [_, _, _], _ => rfl) fun cdv A outer s H E hr => ?_
  have hu := room64 hr
  have hu8 := room80 hr
  exact (ds_cons (ds_setN (i := 3) sc_law_word.nd (dv_lst da_nil))
    (ds_cons (ds_for PassesOwn.never rfl (di_range1 rfl T.f_range (df_var (pv 2))) (dg_nm (i := 4) sc_law_word.nd)
    (ds_one (ds_expr (df_app (pv 3) (df_ice (dv_cal c_law_letter (hr.mono (by decide)) (dr_slot (pv 0) (dr_slot (pv 1) (dr_val (dv_of df_int) dr_nil)))))))))
    (ds_one (ds_ret (dv_ty (ca_tuple) rfl T.f_tuple rfl (dr_slot (pv 3) dr_nil))))))
theorem sc_word_cuts : FnScope N_word_cuts ["word"] (defScope s_word_cuts) := ⟨rfl, rfl, rfl, by decide +kernel, rfl, by decide +kernel, by decide +kernel⟩
theorem ok_word_cuts (T : Txt K mg) : CalD P w K mg base 1 "word_cuts" s_word_cuts ["word"] sem_word_cuts := by
  obtain ⟨f, fd, F, hm⟩ := T.g_word_cuts
  refine calD (N := N_word_cuts) (fx := [0]) F hm sc_word_cuts (by decide) (by decide) (fun _ _ _ _ _ _ us hl => match us, hl with | [_], _ => rfl) fun cdv A outer s H E hr => ?_
  have hu := room64 hr
  have hu8 := room80 hr
  exact (ds_one (ds_ret (dv_lc (own := [("at", 1)]) (fxc := [0]) (fxOk (N := N_word_cuts) (by decide +kernel)) rfl sc_word_cuts.nd (di_range1 rfl T.f_range (df_op op_addD (df_ice (dv_bi (ca_len) rfl T.f_len rfl (dr_slot (pv 0) dr_nil))) df_int)) (blkOk_by (N := N_word_cuts) (sc := defScope s_word_cuts) (by decide +kernel)) (fun _ _ _ _ _ => (dg_nm (i := 1) sc_word_cuts.nd)) (fun _ _ _ _ _ => dts_nil) (fun _ _ _ _ _ => (df_tup (da_cons (df_ice (dv_slice (df_var (pv 0)) do_none (do_some (df_var (pv 1))))) (da_cons (df_ice (dv_slice (df_var (pv 0)) (do_some (df_var (pv 1))) do_none)) da_nil)))))))
theorem sc_cuts : FnScope N_cuts ["columns", "word"] (defScope s_cuts) := ⟨rfl, rfl, rfl, by decide +kernel, rfl, by decide +kernel, by decide +kernel⟩
theorem ok_cuts (T : Txt K mg) : CalD P w K mg base 6 "cuts" s_cuts ["columns", "word"] sem_cuts := by
  obtain ⟨f, fd, F, hm⟩ := T.g_cuts
  have c_want_columns : CalD P w K mg base 3 "want_columns" s_want_columns ["value"] sem_want_columns := ok_want_columns T
  have c_want_word : CalD P w K mg base 5 "want_word" s_want_word ["columns", "value"] sem_want_word := ok_want_word T
  have c_word_cuts : CalD P w K mg base 1 "word_cuts" s_word_cuts ["word"] sem_word_cuts := ok_word_cuts T
  refine calD (N := N_cuts) (fx := [0, 1]) F hm sc_cuts (by decide) (by decide) (fun _ _ _ _ _ _ us hl => match us, hl with | [_, _], _ => rfl) fun cdv A outer s H E hr => ?_
  have hu := room64 hr
  have hu8 := room80 hr
  exact (ds_cons (ds_expr (df_ice (dv_cal c_want_columns (hr.mono (by decide)) (dr_slot (pv 0) dr_nil))))
    (ds_cons (ds_expr (df_ice (dv_cal c_want_word (hr.mono (by decide)) (dr_slot (pv 0) (dr_slot (pv 1) dr_nil)))))
    (ds_one (ds_ret (dv_cal c_word_cuts (hr.mono (by decide)) (dr_slot (pv 1) dr_nil))))))
theorem sc_turned_word : FnScope N_turned_word ["columns", "word"] (defScope s_turned_word) := ⟨rfl, rfl, rfl, by decide +kernel, rfl, by decide +kernel, by decide +kernel⟩
theorem ok_turned_word (T : Txt K mg) : CalD P w K mg base 6 "turned_word" s_turned_word ["columns", "word"] sem_turned_word := by
  obtain ⟨f, fd, F, hm⟩ := T.g_turned_word
  have c_want_columns : CalD P w K mg base 3 "want_columns" s_want_columns ["value"] sem_want_columns := ok_want_columns T
  have c_want_word : CalD P w K mg base 5 "want_word" s_want_word ["columns", "value"] sem_want_word := ok_want_word T
  refine calD (N := N_turned_word) (fx := [0, 1]) F hm sc_turned_word (by decide) (by decide) (fun _ _ _ _ _ _ us hl => match us, hl with | [_, _], _ => rfl) fun cdv A outer s H E hr => ?_
  have hu := room64 hr
  have hu8 := room80 hr
  exact (ds_cons (ds_expr (df_ice (dv_cal c_want_columns (hr.mono (by decide)) (dr_slot (pv 0) dr_nil))))
    (ds_cons (ds_expr (df_ice (dv_cal c_want_word (hr.mono (by decide)) (dr_slot (pv 0) (dr_slot (pv 1) dr_nil)))))
    (ds_one (ds_ret (dv_rev (df_var (pv 1)))))))
theorem sc_law_right : FnScope N_law_right ["_law_pot_here"] (defScope s_law_right) := ⟨rfl, rfl, rfl, by decide +kernel, rfl, by decide +kernel, by decide +kernel⟩
theorem ok_law_right (T : Txt K mg) : CalD P w K mg base 8 "_law_right" s_law_right ["_law_pot_here"] sem_law_right := by
  obtain ⟨f, fd, F, hm⟩ := T.g_law_right
  have c_law_draw : CalD P w K mg base 1 "_law_draw" s_law_draw ["_law_pot_here", "_law_many"] sem_law_draw := ok_law_draw T
  have c_law_further : CalD P w K mg base 7 "_law_further" s_law_further ["_law_columns", "_law_some", "_law_word_here", "_law_is_own"] sem_law_further := ok_law_further T
  have c_law_laced : CalD P w K mg base 2 "_law_laced" s_law_laced ["_law_one", "_law_other"] sem_law_laced := ok_law_laced T
  have c_law_put : CalD P w K mg base 1 "_law_put" s_law_put ["_law_found", "_law_key", "_law_often"] sem_law_put := ok_law_put T
  have c_law_word : CalD P w K mg base 3 "_law_word" s_law_word ["_law_pot_here", "_law_columns", "_law_many"] sem_law_word := ok_law_word T
  have c_cuts : CalD P w K mg base 6 "cuts" s_cuts ["columns", "word"] sem_cuts := ok_cuts T
  have c_lacings : CalD P w K mg base 6 "lacings" s_lacings ["columns", "word", "other"] sem_lacings := ok_lacings T
  have c_turned_word : CalD P w K mg base 6 "turned_word" s_turned_word ["columns", "word"] sem_turned_word := ok_turned_word T
  refine calD (N := N_law_right) (fx := [0]) F hm sc_law_right (by decide) (by decide) (fun _ _ _ _ _ _ us hl => match us, hl with | [_], _ => rfl) fun cdv A outer s H E hr => ?_
  have hu := room64 hr
  have hu8 := room80 hr
  exact (ds_cons (ds_setN (i := 1) sc_law_right.nd (dv_cal c_law_draw (hr.mono (by decide)) (dr_slot (pv 0) (dr_val (dv_of df_int) dr_nil))))
    (ds_cons (ds_par (i := 2) (j := 3) rfl sc_law_right.nd rfl rfl (by decide) rfl rfl (dr_val (dv_cal c_law_word (hr.mono (by decide)) (dr_slot (pv 0) (dr_slot (pv 1) (dr_val (dv_cal c_law_draw (hr.mono (by decide)) (dr_slot (pv 0) (dr_val (dv_of df_int) dr_nil))) dr_nil)))) (dr_val (dv_cal c_law_word (hr.mono (by decide)) (dr_slot (pv 0) (dr_slot (pv 1) (dr_val (dv_cal c_law_draw (hr.mono (by decide)) (dr_slot (pv 0) (dr_val (dv_of df_int) dr_nil))) dr_nil)))) dr_nil)) rfl)
    (ds_cons (ds_setN (i := 4) sc_law_right.nd (dv_cal c_law_word (hr.mono (by decide)) (dr_slot (pv 0) (dr_slot (pv 1) (dr_val (dv_if (dt_cmp (op_ltD) (df_op op_addD (df_ice (dv_bi (ca_len) rfl T.f_len rfl (dr_slot (pv 2) dr_nil))) (df_ice (dv_bi (ca_len) rfl T.f_len rfl (dr_slot (pv 3) dr_nil)))) df_int (nomark _)) (dv_cal c_law_draw (hr.mono (by decide)) (dr_slot (pv 0) (dr_val (dv_of df_int) dr_nil))) (dv_of df_int)) dr_nil)))))
    (ds_cons (ds_par (i := 5) (j := 6) rfl sc_law_right.nd rfl rfl (by decide) rfl rfl (dr_val (dv_cal c_lacings (hr.mono (by decide)) (dr_slot (pv 1) (dr_slot (pv 2) (dr_slot (pv 3) dr_nil)))) (dr_val (dv_cal c_lacings (hr.mono (by decide)) (dr_slot (pv 1) (dr_slot (pv 3) (dr_slot (pv 4) dr_nil)))) dr_nil)) rfl)
    (ds_cons (ds_par (i := 7) (j := 8) rfl sc_law_right.nd rfl rfl (by decide) rfl rfl (dr_val (dv_cal c_law_further (hr.mono (by decide)) (dr_slot (pv 1) (dr_slot (pv 5) (dr_slot (pv 4) (dr_val (dv_of df_bl) dr_nil))))) (dr_val (dv_cal c_law_further (hr.mono (by decide)) (dr_slot (pv 1) (dr_slot (pv 6) (dr_slot (pv 2) (dr_val (dv_of df_bl) dr_nil))))) dr_nil)) rfl)
    (ds_cons (ds_setN (i := 9) sc_law_right.nd (dv_cal c_law_further (hr.mono (by decide)) (dr_slot (pv 1) (dr_val (dv_bi (ca_sorted hu) rfl T.f_sorted rfl (dr_val (dv_listItems rfl (df_ice (dv_cal c_law_laced (hr.mono (by decide)) (dr_slot (pv 2) (dr_slot (pv 3) dr_nil)))) rfl T.f_list) dr_nil)) (dr_slot (pv 4) (dr_val (dv_of df_bl) dr_nil))))))
    (ds_cons (ds_if (dt_w (dw_or (dt_cmp (op_neA hu8) (df_var (pv 7)) (df_var (pv 9)) (nomark _)) (dw_or1 (dt_cmp (op_neA hu8) (df_var (pv 8)) (df_var (pv 9)) (nomark _))))) (ds_one (ds_ret (dv_of df_bl))) ds_nil)
    (ds_cons (ds_par (i := 10) (j := 11) rfl sc_law_right.nd rfl rfl (by decide) rfl rfl (dr_val dv_dnew (dr_val dv_dnew dr_nil)) rfl)
    (ds_cons (ds_for PassesOwn.never rfl (di_seq (df_var (pv 5))) (dg_tup rfl (dgs_cons (dg_nm (i := 12) sc_law_right.nd) (dgs_cons (dg_nm (i := 13) sc_law_right.nd) dgs_nil)))
    (ds_one (ds_for PassesOwn.never rfl (di_seq (df_ice (dv_cal c_cuts (hr.mono (by decide)) (dr_slot (pv 1) (dr_slot (pv 12) dr_nil))))) (dg_nm (i := 14) sc_law_right.nd)
    (ds_one (ds_expr (df_ice (dv_cal c_law_put (hr.mono (by decide)) (dr_slot (pv 10) (dr_slot (pv 14) (dr_slot (pv 13) dr_nil))))))))))
    (ds_cons (ds_for PassesOwn.never rfl (di_seq (df_ice (dv_cal c_cuts (hr.mono (by decide)) (dr_slot (pv 1) (dr_slot (pv 2) dr_nil))))) (dg_tup rfl (dgs_cons (dg_nm (i := 15) sc_law_right.nd) (dgs_cons (dg_nm (i := 16) sc_law_right.nd) dgs_nil)))
    (ds_one (ds_for PassesOwn.never rfl (di_seq (df_ice (dv_cal c_cuts (hr.mono (by decide)) (dr_slot (pv 1) (dr_slot (pv 3) dr_nil))))) (dg_tup rfl (dgs_cons (dg_nm (i := 17) sc_law_right.nd) (dgs_cons (dg_nm (i := 18) sc_law_right.nd) dgs_nil)))
    (ds_one (ds_for PassesOwn.never rfl (di_seq (df_ice (dv_cal c_lacings (hr.mono (by decide)) (dr_slot (pv 1) (dr_slot (pv 15) (dr_slot (pv 17) dr_nil)))))) (dg_tup rfl (dgs_cons (dg_nm (i := 12) sc_law_right.nd) (dgs_cons (dg_nm (i := 13) sc_law_right.nd) dgs_nil)))
    (ds_one (ds_for PassesOwn.never rfl (di_seq (df_ice (dv_cal c_lacings (hr.mono (by decide)) (dr_slot (pv 1) (dr_slot (pv 16) (dr_slot (pv 18) dr_nil)))))) (dg_tup rfl (dgs_cons (dg_nm (i := 19) sc_law_right.nd) (dgs_cons (dg_nm (i := 20) sc_law_right.nd) dgs_nil)))
    (ds_one (ds_expr (df_ice (dv_cal c_law_put (hr.mono (by decide)) (dr_slot (pv 11) (dr_val (dv_of (df_tup (da_cons (df_var (pv 12)) (da_cons (df_var (pv 19)) da_nil)))) (dr_val (dv_of (df_op op_mulD (df_var (pv 13)) (df_var (pv 20)))) dr_nil))))))))))))))
    (ds_cons (ds_if (dt_cmp (op_neA hu8) (df_var (pv 10)) (df_var (pv 11)) (nomark _)) (ds_one (ds_ret (dv_of df_bl))) ds_nil)
    (ds_cons (ds_setN (i := 21) sc_law_right.nd (dv_bi (ca_sorted hu) rfl T.f_sorted rfl (dr_val (dv_lc (own := [("_law_word_here", 12), ("_law_often", 13)]) (fxc := [0, 1, 2, 3, 4, 5, 6, 7, 8, 9, 10, 11, 14, 15, 16, 17, 18, 19, 20, 21]) (fxOk (N := N_law_right) (by decide +kernel)) rfl sc_law_right.nd (di_seq (df_var (pv 5))) (blkOk_by (N := N_law_right) (sc := defScope s_law_right) (by decide +kernel)) (fun _ _ _ _ _ => (dg_tup rfl (dgs_cons (dg_nm (i := 12) sc_law_right.nd) (dgs_cons (dg_nm (i := 13) sc_law_right.nd) dgs_nil)))) (fun _ _ _ _ _ => dts_nil) (fun _ _ _ _ _ => (df_tup (da_cons (df_ice (dv_rev (df_var (pv 12)))) (da_cons (df_var (pv 13)) da_nil))))) dr_nil)))
    (ds_cons (ds_if (dt_cmp (op_neA hu8) (df_ice (dv_cal c_turned_word (hr.mono (by decide)) (dr_slot (pv 1) (dr_slot (pv 2) dr_nil)))) (df_ice (dv_rev (df_var (pv 2)))) (nomark _)) (ds_one (ds_ret (dv_of df_bl))) ds_nil)
    (ds_cons (ds_if (dt_cmp (op_neA hu8) (df_ice (dv_cal c_lacings (hr.mono (by decide)) (dr_slot (pv 1) (dr_val (dv_rev (df_var (pv 2))) (dr_val (dv_calK (ks := ["word", "columns"]) [1, 0] c_turned_word (hr.mono (by decide)) (dk_slot (pv 3) (dk_slot (pv 1) dk_nil)) (fun _ _ _ _ _ _ ws hl => match ws, hl with | [_, _], _ => rfl)) dr_nil))))) (df_var (pv 21)) (nomark _)) (ds_one (ds_ret (dv_of df_bl))) ds_nil)
    (ds_one (ds_ret (dv_of (df_and (df_cmp (op_eqA hu8) (df_ice (dv_cal c_lacings (hr.mono (by decide)) (dr_slot (pv 1) (dr_slot (pv 2) (dr_val (dv_of (df_tup da_nil)) dr_nil))))) (df_ice (dv_lst (da_cons (df_tup (da_cons (df_var (pv 2)) (da_cons df_int da_nil))) da_nil))) (nomark _)) (df_one (df_cmp (op_eqA hu8) (df_ice (dv_calK (ks := ["other", "word", "columns"]) [2, 1, 0] c_lacings (hr.mono (by decide)) (dk_slot (pv 2) (dk_val (df_tup da_nil) (dk_slot (pv 1) dk_nil))) (fun _ _ _ _ _ _ ws hl => match ws, hl with | [_, _, _], _ => rfl))) (df_ice (dv_lst (da_cons (df_tup (da_cons (df_var (pv 2)) (da_cons df_int da_nil))) da_nil))) (nomark _)))))))))))))))))))))
theorem sc_law : FnScope N_law ["_law_script"] (defScope s_law) := ⟨rfl, rfl, rfl, by decide +kernel, rfl, by decide +kernel, by decide +kernel⟩
theorem lawOk (T : Txt K mg) {f : Addr} {fd : FuncData} (F : FunD K "law" "law" (defArgs s_law) (defBody s_law) (defScope s_law) [] [] f fd) : FnOk P w K mg base CX0 9 f fd ["_law_script"] (spD ⟨P, w, K, mg⟩ sem_law) := by
  have c_law_pot : CalD P w K mg base 1 "_law_pot" s_law_pot ["_law_script", "_law_k"] sem_law_pot := ok_law_pot T
  have c_law_right : CalD P w K mg base 8 "_law_right" s_law_right ["_law_pot_here"] sem_law_right := ok_law_right T
  refine fnDD (N := N_law) (fx := [0]) F sc_law (by decide) (by decide) fun cdv A outer s H E hr => ?_
  have hu := room64 hr
  have hu8 := room80 hr
  exact (ds_one (ds_ret (dv_cal c_law_right (hr.mono (by decide)) (dr_val (dv_cal c_law_pot (hr.mono (by decide)) (dr_slot (pv 0) (dr_val (dv_of df_int) dr_nil))) dr_nil))))
end
end K25
end

section
set_option Elab.async false
set_option linter.all false
set_option maxRecDepth 100000
set_option maxHeartbeats 1000000
namespace DS
open PySem
/-! ### loops, on data -/
theorem forL_inv {b : BG} {body : TM} (P : List D → DEnv → Prop) (step : ∀ x xs sd, P (x :: xs) sd → ∃ s1 s2, b x sd = some s1 ∧ body s1 = some (.nx, s2) ∧ P xs s2) : ∀ xs sd, P xs sd → ∃ sd', dForL b body xs sd = some (.nx, sd') ∧ P [] sd'
  | [], sd, h => ⟨sd, rfl, h⟩
  | x :: xs, sd, h => by
    obtain ⟨s1, s2, h1, h2, h3⟩ := step x xs sd h
    obtain ⟨sd', h4, h5⟩ := forL_inv P step xs s2 h3
    exact ⟨sd', by simp only [dForL, h1, Option.bind_some, h2, h4], h5⟩
theorem lcL_map {b : BG} {tt : TB} {te : TF} {vs : List Nat} (P : DEnv → Prop) (g : D → D) : ∀ xs sd, (∀ x ∈ xs, ∀ sd, P sd → ∃ s1 s2 s3, b x (wipeD sd vs) = some s1 ∧ tt s1 = some (true, s2) ∧ te s2 = some (g x, s3) ∧ P s3) → P sd → ∃ sd', dLcL b tt te vs xs sd = some (xs.map g, sd') ∧ P sd'
  | [], sd, _, h => ⟨sd, rfl, h⟩
  | x :: xs, sd, step, h => by
    obtain ⟨s1, s2, s3, h1, h2, h3, h4⟩ := step x (List.mem_cons_self ..) sd h
    obtain ⟨sd', h5, h6⟩ := lcL_map P g xs s3 (fun y hy => step y (List.mem_cons_of_mem _ hy)) h4
    exact ⟨sd', by simp only [dLcL, h1, Option.bind_some, h2, if_true, h3, h5, List.map_cons], h6⟩
/-! ### bags: a dict that counts -/
/-- keys: an encoding -/
structure KE (α : Type) where
  enc : α → D
  key : α → NestedKey
  ok : ∀ x, keyOk (enc x) = some (key x)
  inj : ∀ x y, key x = key y → x = y
section
variable {α β : Type} [DecidableEq α] (E : KE α)
abbrev Cnt (α : Type) := List (α × Nat)
def getN (ps : Cnt α) (x : α) : Nat := match ps with
  | [] => 0
  | (y, c) :: r => if y = x then c else getN r x
def addN (ps : Cnt α) (x : α) (n : Nat) : Cnt α := match ps with
  | [] => [(x, n)]
  | (y, c) :: r => if y = x then (y, c + n) :: r else (y, c) :: addN r x n
def encP (ps : Cnt α) : List D := ps.map fun p => .tup [E.enc p.1, .int p.2]
variable {E}
theorem KE.nk (x : α) : D.nk (E.enc x) = some (E.key x) := (keyOk_inv (E.ok x)).2.1
theorem getN_absent {ps : Cnt α} {x : α} (h : x ∉ ps.map (·.1)) : getN ps x = 0 := by
  induction ps with
  | nil => rfl
  | cons p r ih =>
    obtain ⟨y, c⟩ := p
    simp only [List.map_cons, List.mem_cons, not_or] at h
    simp only [getN]
    rw [if_neg (fun e => h.1 e.symm)]
    exact ih h.2
theorem encP_find {ps : Cnt α} {x : α} : dfind (encP E ps) (E.key x) = if x ∈ ps.map (·.1) then some (.int (getN ps x)) else none := by
  induction ps with
  | nil => rfl
  | cons p r ih =>
    obtain ⟨y, c⟩ := p
    show dfind (.tup [E.enc y, .int c] :: encP E r) (E.key x) = _
    simp only [dfind, KE.nk (E := E) y, Option.some.injEq, List.map_cons, List.mem_cons, getN]
    by_cases e : y = x
    · subst e; simp
    · have e1 : ¬ E.key y = E.key x := fun h => e (E.inj _ _ h)
      rw [if_neg e1, ih, if_neg e]
      have e2 : ¬ x = y := fun h => e h.symm
      by_cases hm : x ∈ r.map (·.1)
      · rw [if_pos hm, if_pos (.inr hm)]
      · rw [if_neg hm, if_neg (fun z => z.elim e2 hm)]
theorem encP_get {ps : Cnt α} {x : α} : getB (.dct (encP E ps)) (E.enc x) (.int 0) = some (.int (getN ps x)) := by
  simp only [getB, E.ok x, Option.bind_some, encP_find]
  by_cases h : x ∈ ps.map (·.1)
  · simp [h]
  · simp [h, getN_absent h]
theorem encP_put {ps : Cnt α} {x : α} {n : Nat} : dput (encP E ps) (E.key x) (E.enc x) (.int ((getN ps x + n : Nat) : Int)) = encP E (addN ps x n) := by
  induction ps with
  | nil => simp [encP, dput, addN, getN]
  | cons p r ih =>
    obtain ⟨y, c⟩ := p
    show dput (.tup [E.enc y, .int c] :: encP E r) (E.key x) (E.enc x) _ = _
    simp only [dput, KE.nk (E := E) y, Option.some.injEq, getN, addN]
    by_cases e : y = x
    · subst e; simp [encP]
    · have e1 : ¬ E.key y = E.key x := fun h => e (E.inj _ _ h)
      rw [if_neg e1, if_neg e, if_neg e, ih]; rfl
theorem encP_len {ps : Cnt α} : (encP E ps).length = ps.length := by simp [encP]
/-- ps counts the items of m -/
structure Bag (ps : Cnt α) (m : List α) : Prop where
  nd : (ps.map (·.1)).Nodup
  pos : ∀ p ∈ ps, 0 < p.2
  cnt : ∀ x, m.count x = getN ps x
theorem Bag.nil : Bag ([] : Cnt α) [] := ⟨List.nodup_nil, by simp, fun x => rfl⟩
theorem addN_keys {ps : Cnt α} {x : α} {n : Nat} : ∀ y, y ∈ (addN ps x n).map (·.1) ↔ y = x ∨ y ∈ ps.map (·.1) := by
  induction ps with
  | nil => intro y; simp [addN]
  | cons p r ih =>
    obtain ⟨z, c⟩ := p
    intro y
    simp only [addN]
    by_cases e : z = x
    · subst e; simp
    · rw [if_neg e]
      simp only [List.map_cons, List.mem_cons, ih y]
      constructor
      · rintro (h | h | h)
        · exact .inr (.inl h)
        · exact .inl h
        · exact .inr (.inr h)
      · rintro (h | h | h)
        · exact .inr (.inl h)
        · exact .inl h
        · exact .inr (.inr h)
theorem addN_nodup {ps : Cnt α} {x : α} {n : Nat} (h : (ps.map (·.1)).Nodup) : ((addN ps x n).map (·.1)).Nodup := by
  induction ps with
  | nil => simp [addN]
  | cons p r ih =>
    obtain ⟨z, c⟩ := p
    rw [List.map_cons, List.nodup_cons] at h
    simp only [addN]
    by_cases e : z = x
    · rw [if_pos e, List.map_cons, List.nodup_cons]; exact h
    · rw [if_neg e, List.map_cons, List.nodup_cons]
      refine ⟨fun hm => ?_, ih h.2⟩
      rcases (addN_keys z).mp hm with hm | hm
      · exact e hm
      · exact h.1 hm
theorem addN_get {ps : Cnt α} {x y : α} {n : Nat} : getN (addN ps x n) y = getN ps y + if x = y then n else 0 := by
  induction ps with
  | nil =>
    simp only [addN, getN]
    by_cases e : x = y <;> simp [e]
  | cons p r ih =>
    obtain ⟨z, c⟩ := p
    simp only [addN]
    by_cases e : z = x
    · subst e
      simp only [if_true, getN]
      by_cases e2 : z = y <;> simp [e2]
    · simp only [if_neg e, getN]
      by_cases e2 : z = y
      · subst e2
        simp [fun h => e (Eq.symm h)]
        exact fun h => absurd h.symm e
      · simp only [if_neg e2]; exact ih
theorem addN_pos {ps : Cnt α} {x : α} {n : Nat} (h : ∀ p ∈ ps, 0 < p.2) (hn : 0 < n) : ∀ p ∈ addN ps x n, 0 < p.2 := by
  induction ps with
  | nil => intro p hp; simp [addN] at hp; subst hp; exact hn
  | cons q r ih =>
    obtain ⟨z, c⟩ := q
    intro p hp
    simp only [addN] at hp
    split at hp
    · rcases List.mem_cons.mp hp with e | hp
      · subst e; exact Nat.add_pos_right _ hn
      · exact h p (List.mem_cons_of_mem _ hp)
    · rcases List.mem_cons.mp hp with e | hp
      · subst e; exact h _ (List.mem_cons_self ..)
      · exact ih (fun q hq => h q (List.mem_cons_of_mem _ hq)) p hp
theorem addN_len {ps : Cnt α} {x : α} {n : Nat} : (addN ps x n).length ≤ ps.length + 1 := by
  induction ps with
  | nil => simp [addN]
  | cons p r ih =>
    obtain ⟨z, c⟩ := p
    simp only [addN]
    split
    · simp
    · simp only [List.length_cons]; omega
theorem Bag.add {ps : Cnt α} {m : List α} (h : Bag ps m) {x : α} {n : Nat} (hn : 0 < n) : Bag (addN ps x n) (m ++ List.replicate n x) :=
  ⟨addN_nodup h.nd, addN_pos h.pos hn, fun y => by
    rw [List.count_append, h.cnt y, addN_get, List.count_replicate]
    by_cases e : x = y <;> simp [e]⟩
theorem Bag.perm {ps : Cnt α} {m m' : List α} (h : Bag ps m) (p : m.Perm m') : Bag ps m' := ⟨h.nd, h.pos, fun x => by rw [← h.cnt x]; exact (p.count_eq x).symm⟩
/-- what the counts stand for -/
def flatN (ps : Cnt α) : List α := ps.flatMap fun p => List.replicate p.2 p.1
theorem flatN_count {ps : Cnt α} (h : (ps.map (·.1)).Nodup) (x : α) : (flatN ps).count x = getN ps x := by
  induction ps with
  | nil => rfl
  | cons p r ih =>
    obtain ⟨y, c⟩ := p
    rw [List.map_cons, List.nodup_cons] at h
    show (List.replicate c y ++ flatN r).count x = _
    rw [List.count_append, List.count_replicate, ih h.2]
    simp only [getN]
    by_cases e : y = x
    · subst e; rw [getN_absent h.1]; simp
    · simp [e]
theorem Bag.flat {ps : Cnt α} {m : List α} (h : Bag ps m) : m.Perm (flatN ps) := List.perm_iff_count.mpr fun x => by rw [h.cnt x, flatN_count h.nd]
theorem Bag.self {ps : Cnt α} (h : (ps.map (·.1)).Nodup) (hp : ∀ p ∈ ps, 0 < p.2) : Bag ps (flatN ps) := ⟨h, hp, fun x => flatN_count h x⟩
theorem Bag.len {ps : Cnt α} {m : List α} (h : Bag ps m) : ps.length ≤ m.length := by
  rw [h.flat.length_eq]
  have := h.pos
  clear h
  induction ps with
  | nil => simp
  | cons p r ih =>
    have h1 := this p (List.mem_cons_self ..)
    have h2 := ih fun q hq => this q (List.mem_cons_of_mem _ hq)
    show r.length + 1 ≤ (List.replicate p.2 p.1 ++ flatN r).length
    rw [List.length_append, List.length_replicate]; omega
theorem getN_mem {ps : Cnt α} (h : (ps.map (·.1)).Nodup) {p : α × Nat} (hp : p ∈ ps) : getN ps p.1 = p.2 := by
  induction ps with
  | nil => cases hp
  | cons q r ih =>
    obtain ⟨y, c⟩ := q
    rw [List.map_cons, List.nodup_cons] at h
    simp only [getN]
    rcases List.mem_cons.mp hp with e | hp
    · subst e; simp
    · have : y ≠ p.1 := fun e => h.1 (by rw [e]; exact List.mem_map.mpr ⟨p, hp, rfl⟩)
      rw [if_neg this]; exact ih h.2 hp
/-- two counts of the same: the same pairs -/
theorem Bag.same {ps qs : Cnt α} {m : List α} (h : Bag ps m) (k : Bag qs m) : ps.Perm qs := by
  have sub : ∀ {a b : Cnt α}, Bag a m → Bag b m → ∀ p ∈ a, p ∈ b := fun {a b} ha hb p hp => by
    have e1 := getN_mem ha.nd hp
    rw [← ha.cnt, hb.cnt] at e1
    have hpos := ha.pos p hp
    have hm : p.1 ∈ b.map (·.1) := by
      by_cases hm : p.1 ∈ b.map (·.1)
      · exact hm
      · rw [getN_absent hm] at e1; omega
    obtain ⟨q, hq, e2⟩ := List.mem_map.mp hm
    have e3 := getN_mem hb.nd hq
    rw [e2, e1] at e3
    have : p = q := by
      obtain ⟨p1, p2⟩ := p; obtain ⟨q1, q2⟩ := q
      simp only at e2 e3; rw [e2, e3]
    rw [this]; exact hq
  have nd : ∀ {a : Cnt α}, (a.map (·.1)).Nodup → a.Nodup := fun {a} ha => by
    unfold List.Nodup at ha ⊢
    rw [List.pairwise_map] at ha
    exact ha.imp fun h e => h (by rw [e])
  exact (List.perm_ext_iff_of_nodup (nd h.nd) (nd k.nd)).mpr fun p => ⟨sub h k p, sub k h p⟩
end
end DS
end

section
set_option Elab.async false
set_option linter.all false
set_option maxRecDepth 100000
set_option maxHeartbeats 1000000
namespace DS
open PySem
/-! ### sorted rows are told by what is in them -/
theorem sorted_perm_eq {α : Type} {le : α → α → Bool} : ∀ {l1 l2 : List α}, l1.Pairwise (fun a b => le a b = true) → l2.Pairwise (fun a b => le a b = true) → l1.Perm l2 → (∀ a ∈ l1, ∀ b ∈ l1, le a b = true → le b a = true → a = b) → l1 = l2
  | [], l2, _, _, p, _ => (List.Perm.nil_eq p)
  | a :: t1, [], _, _, p, _ => by have := p.length_eq; simp at this
  | a :: t1, b :: t2, h1, h2, p, an => by
    have ab : a = b := by
      have ma : a ∈ b :: t2 := p.mem_iff.mp (List.mem_cons_self ..)
      have mb : b ∈ a :: t1 := p.mem_iff.mpr (List.mem_cons_self ..)
      rcases List.mem_cons.mp ma with e | ma
      · exact e
      · rcases List.mem_cons.mp mb with e | mb'
        · exact e.symm
        · exact an a (List.mem_cons_self ..) b mb ((List.pairwise_cons.mp h1).1 b mb') ((List.pairwise_cons.mp h2).1 a ma)
    subst ab
    rw [sorted_perm_eq (List.pairwise_cons.mp h1).2 (List.pairwise_cons.mp h2).2 (List.Perm.cons_inv p) fun x hx y hy => an x (List.mem_cons_of_mem _ hx) y (List.mem_cons_of_mem _ hy)]
mutual
theorem toks_inj : ∀ (x y : PyData) (l m : List (Int ⊕ List Nat)), PySem.W.alike x y = true → PySem.W.keyToks x ++ l = PySem.W.keyToks y ++ m → x = y ∧ l = m
  | .none, y, l, m, h, e => by cases y <;> first | (simp [PySem.W.alike] at h; done) | exact ⟨rfl, by simpa [PySem.W.keyToks] using e⟩
  | .bool b, y, l, m, h, e => by
    cases y <;> first | (simp [PySem.W.alike] at h; done) | skip
    rename_i c
    simp only [PySem.W.keyToks, List.cons_append, List.nil_append, List.cons.injEq, Sum.inl.injEq] at e
    refine ⟨?_, e.2⟩
    cases b <;> cases c <;> simp at e ⊢
  | .int i, y, l, m, h, e => by
    cases y <;> first | (simp [PySem.W.alike] at h; done) | skip
    simp only [PySem.W.keyToks, List.cons_append, List.nil_append, List.cons.injEq, Sum.inl.injEq] at e
    exact ⟨by rw [e.1], e.2⟩
  | .str a, y, l, m, h, e => by
    cases y <;> first | (simp [PySem.W.alike] at h; done) | skip
    simp only [PySem.W.keyToks, List.cons_append, List.nil_append, List.cons.injEq, Sum.inr.injEq] at e
    exact ⟨by rw [PySem.W.str_of_cps e.1], e.2⟩
  | .list xs, y, l, m, h, e => by
    cases y <;> first | (simp [PySem.W.alike] at h; done) | skip
    rename_i ys
    simp only [PySem.W.alike] at h
    simp only [PySem.W.keyToks] at e
    obtain ⟨h1, h2⟩ := toksAll_inj xs ys l m h e
    exact ⟨by rw [h1], h2⟩
  | .tuple xs, y, l, m, h, e => by
    cases y <;> first | (simp [PySem.W.alike] at h; done) | skip
    rename_i ys
    simp only [PySem.W.alike] at h
    simp only [PySem.W.keyToks] at e
    obtain ⟨h1, h2⟩ := toksAll_inj xs ys l m h e
    exact ⟨by rw [h1], h2⟩
  | .dict _, y, l, m, h, e => by cases y <;> simp [PySem.W.alike] at h
theorem toksAll_inj : ∀ (xs ys : List PyData) (l m : List (Int ⊕ List Nat)), PySem.W.alikeAll xs ys = true → PySem.W.keyToksAll xs ++ l = PySem.W.keyToksAll ys ++ m → xs = ys ∧ l = m
  | [], [], l, m, _, e => by simp only [PySem.W.keyToksAll, List.cons_append, List.nil_append, List.cons.injEq] at e; exact ⟨rfl, e.2⟩
  | [], y :: ys, l, m, _, e => by simp [PySem.W.keyToksAll] at e
  | x :: xs, [], l, m, _, e => by simp [PySem.W.keyToksAll] at e
  | x :: xs, y :: ys, l, m, h, e => by
    simp only [PySem.W.alikeAll, Bool.and_eq_true] at h
    simp only [PySem.W.keyToksAll, List.cons_append, List.append_assoc, List.cons.injEq, true_and] at e
    obtain ⟨h1, h2⟩ := toks_inj x y _ _ h.1 e
    obtain ⟨h3, h4⟩ := toksAll_inj xs ys l m h.2 h2
    exact ⟨by rw [h1, h3], h4⟩
end
mutual
theorem D.pd_inj : ∀ (a b : D) (k : PyData), D.pd a = some k → D.pd b = some k → a = b
  | .non, b, k, h, h' => by
    simp only [D.pd, Option.some.injEq] at h; subst h
    cases b <;> simp only [D.pd] at h' <;> first | rfl | cases h' | (split at h' <;> cases h')
  | .bl i, b, k, h, h' => by
    simp only [D.pd, Option.some.injEq] at h; subst h
    cases b <;> simp only [D.pd] at h' <;> first | (cases h'; rfl) | cases h' | (split at h' <;> cases h')
  | .int i, b, k, h, h' => by
    simp only [D.pd, Option.some.injEq] at h; subst h
    cases b <;> simp only [D.pd] at h' <;> first | (cases h'; rfl) | cases h' | (split at h' <;> cases h')
  | .str x, b, k, h, h' => by
    simp only [D.pd, Option.some.injEq] at h; subst h
    cases b <;> simp only [D.pd] at h' <;> first | (cases h'; rfl) | cases h' | (split at h' <;> cases h')
  | .tup ds, b, k, h, h' => by
    simp only [D.pd] at h
    split at h
    · rename_i ks hk
      cases h
      cases b with
      | tup es =>
        simp only [D.pd] at h'
        split at h'
        · rename_i ks' hk'
          cases h'
          rw [D.pds_inj ds es ks hk hk']
        · cases h'
      | lst es => simp only [D.pd] at h'; split at h' <;> cases h'
      | _ => simp [D.pd] at h'
    · cases h
  | .lst ds, b, k, h, h' => by
    simp only [D.pd] at h
    split at h
    · rename_i ks hk
      cases h
      cases b with
      | lst es =>
        simp only [D.pd] at h'
        split at h'
        · rename_i ks' hk'
          cases h'
          rw [D.pds_inj ds es ks hk hk']
        · cases h'
      | tup es => simp only [D.pd] at h'; split at h' <;> cases h'
      | _ => simp [D.pd] at h'
    · cases h
  | .kl _, b, k, h, h' => by simp [D.pd] at h
  | .dct _, b, k, h, h' => by simp [D.pd] at h
  | .ins _ _ _, b, k, h, h' => by simp [D.pd] at h
theorem D.pds_inj : ∀ (a b : List D) (k : List PyData), D.pds a = some k → D.pds b = some k → a = b
  | [], b, k, h, h' => by
    simp only [D.pds, Option.some.injEq] at h; subst h
    cases b with
    | nil => rfl
    | cons e es => simp only [D.pds] at h'; split at h' <;> cases h'
  | d :: ds, b, k, h, h' => by
    simp only [D.pds] at h
    split at h
    · rename_i x xs hx hxs
      cases h
      cases b with
      | nil => simp [D.pds] at h'
      | cons e es =>
        simp only [D.pds] at h'
        split at h'
        · rename_i y ys hy hys
          cases h'
          rw [D.pd_inj d e x hx hy, D.pds_inj ds es xs hxs hys]
        · cases h'
    · cases h
end
theorem pds_of : ∀ {ds : List D}, (∀ d ∈ ds, D.pd d = some (pdE d)) → D.pds ds = some (ds.map pdE)
  | [], _ => rfl
  | d :: ds, h => by simp only [D.pds, h d (List.mem_cons_self ..), pds_of fun e he => h e (List.mem_cons_of_mem _ he), List.map_cons]
theorem sortD_perm {ds ds' rs : List D} (h : sortD ds = some rs) (p : ds.Perm ds') : sortD ds' = some rs := by
  unfold sortD at h ⊢
  split at h
  · rename_i ps hps
    obtain ⟨⟨hok, hz⟩, e⟩ := ite_some h
    obtain ⟨e1, hpd⟩ := pds_map hps
    have hpd' : ∀ d ∈ ds', D.pd d = some (pdE d) := fun d hd => hpd d (p.mem_iff.mpr hd)
    rw [pds_of hpd']
    have pp : ps.Perm (ds'.map pdE) := by rw [e1]; exact p.map _
    have all_perm : ∀ {l l' : List PyData} (f : PyData → Bool), l.Perm l' → l.all f = l'.all f := fun {l l'} f q => by
      rw [Bool.eq_iff_iff, List.all_eq_true, List.all_eq_true]
      exact ⟨fun h x hx => h x (q.mem_iff.mpr hx), fun h x hx => h x (q.mem_iff.mp hx)⟩
    have hok' : srtOk (ds'.map pdE) = true := by
      unfold srtOk alikeL at hok ⊢
      rw [← all_perm _ pp, ← all_perm _ pp, ← all_perm _ pp, ← all_perm _ pp]
      have : (fun x => (ds'.map pdE).all fun y => PySem.W.alike x y) = fun x => ps.all fun y => PySem.W.alike x y := funext fun x => (all_perm _ pp).symm
      rw [this]; exact hok
    simp only
    rw [if_pos ⟨hok', by rw [← p.length_eq]; exact hz⟩]
    congr 1
    rw [← e]
    have T := PySem.W.sortLe_total (PyProof.Rows.listOrd PyProof.Rows.itemOrd) false fun b => PySem.W.keyToks (pdE b)
    obtain ⟨al, _, _⟩ := srtOk_iff hok
    rw [e1] at al
    refine (sorted_perm_eq (le := PySem.W.dataLe false pdE) (PySem.W.sort_pairwise T ds) (PySem.W.sort_pairwise T ds') ?_ fun a ha b hb h1 h2 => ?_).symm
    · exact (List.mergeSort_perm _ _).trans (p.trans (List.mergeSort_perm _ _).symm)
    · have ma : a ∈ ds := (List.mergeSort_perm ds _).mem_iff.mp ha
      have mb : b ∈ ds := (List.mergeSort_perm ds _).mem_iff.mp hb
      have h1' : (!PyProof.Rows.lexLt PyProof.Rows.itemOrd (PySem.W.keyToks (pdE b)) (PySem.W.keyToks (pdE a))) = true := h1
      have h2' : (!PyProof.Rows.lexLt PyProof.Rows.itemOrd (PySem.W.keyToks (pdE a)) (PySem.W.keyToks (pdE b))) = true := h2
      rw [Bool.not_eq_true'] at h1' h2'
      have et := (PyProof.Rows.listOrd PyProof.Rows.itemOrd).total _ _ h2' h1'
      have := toks_inj (pdE a) (pdE b) [] [] (al _ (List.mem_map.mpr ⟨a, ma, rfl⟩) _ (List.mem_map.mpr ⟨b, mb, rfl⟩)) (by rw [List.append_nil, List.append_nil]; exact et)
      exact D.pd_inj a b _ (hpd a ma) (by rw [this.1]; exact hpd b mb)
  · cases h
section
variable {α : Type} [DecidableEq α] {E : KE α}
theorem eqItems_bag {ps qs : Cnt α} : ∀ {rs : Cnt α}, (∀ p ∈ rs, p.1 ∈ qs.map (·.1) ∧ getN qs p.1 = p.2) → eqItems (encP E qs) (encP E rs) = some true
  | [], _ => rfl
  | (x, n) :: rs, h => by
    obtain ⟨h1, h2⟩ := h (x, n) (List.mem_cons_self ..)
    have ih := eqItems_bag (ps := ps) (qs := qs) (rs := rs) fun p hp => h p (List.mem_cons_of_mem _ hp)
    show eqItems (encP E qs) (.tup [E.enc x, .int n] :: encP E rs) = _
    simp only [eqItems, KE.nk (E := E) x, Option.bind_some, encP_find, if_pos h1, ih]
    have e : dEqv (.int (n : Int)) (.int (getN qs x : Int)) = some true := by
      have : getN qs x = n := h2
      rw [this]
      simp [dEqv, D.pd, SeqAt.shaped, PyData.canLay0, PyData.eqv, PyData.depth]
    rw [e]; rfl
theorem eqDct_bag {ps qs : Cnt α} {m : List α} (h : Bag ps m) (k : Bag qs m) : eqDct (encP E ps) (encP E qs) = some true := by
  have p := h.same k
  unfold eqDct
  rw [if_pos (by rw [encP_len, encP_len, p.length_eq])]
  refine eqItems_bag (ps := ps) fun x hx => ?_
  have hx' := p.mem_iff.mp hx
  exact ⟨List.mem_map.mpr ⟨x, hx', rfl⟩, getN_mem k.nd hx'⟩
end
end DS
end

section
set_option Elab.async false
set_option linter.all false
set_option maxRecDepth 100000
set_option maxHeartbeats 1000000
namespace DS
open PySem
/-! ### letters, words -/
abbrev Ltr := List Int
abbrev Wrd := List Ltr
def LtD (a : Ltr) : D := .tup (a.map .int)
def WdD (w : Wrd) : D := .tup (w.map LtD)
def kL (a : Ltr) : NestedKey := .tup (a.map .num)
def kWd (w : Wrd) : NestedKey := .tup (w.map kL)
theorem nks_ints : ∀ a : Ltr, D.nks (a.map D.int) = some (a.map NestedKey.num)
  | [] => rfl
  | i :: a => by simp only [List.map_cons, D.nks, D.nk, nks_ints a]
theorem nk_LtD (a : Ltr) : D.nk (LtD a) = some (kL a) := by simp only [LtD, D.nk, nks_ints, kL]
theorem nks_ltrs : ∀ w : Wrd, D.nks (w.map LtD) = some (w.map kL)
  | [] => rfl
  | a :: w => by simp only [List.map_cons, D.nks, nk_LtD, nks_ltrs w]
theorem nk_WdD (w : Wrd) : D.nk (WdD w) = some (kWd w) := by simp only [WdD, D.nk, nks_ltrs, kWd]
theorem num_inj : ∀ {a b : Ltr}, a.map NestedKey.num = b.map NestedKey.num → a = b
  | [], [], _ => rfl
  | [], _ :: _, h => by simp at h
  | _ :: _, [], h => by simp at h
  | i :: a, j :: b, h => by
    simp only [List.map_cons, List.cons.injEq, NestedKey.num.injEq] at h
    rw [h.1, num_inj h.2]
theorem kL_inj {a b : Ltr} (h : kL a = kL b) : a = b := by
  unfold kL at h; injection h with h; exact num_inj h
theorem kLs_inj : ∀ {a b : Wrd}, a.map kL = b.map kL → a = b
  | [], [], _ => rfl
  | [], _ :: _, h => by simp at h
  | _ :: _, [], h => by simp at h
  | i :: a, j :: b, h => by
    simp only [List.map_cons, List.cons.injEq] at h
    rw [kL_inj h.1, kLs_inj h.2]
theorem kWd_inj {a b : Wrd} (h : kWd a = kWd b) : a = b := by
  unfold kWd at h; injection h with h; exact kLs_inj h
theorem depth_nums : ∀ a : Ltr, NestedKey.depthAll (a.map NestedKey.num) ≤ 0
  | [] => by simp [NestedKey.depthAll]
  | i :: a => by have := depth_nums a; simp [NestedKey.depthAll, NestedKey.depth]; omega
theorem depth_kL (a : Ltr) : (kL a).depth ≤ 1 := by have := depth_nums a; simp only [kL, NestedKey.depth]; omega
theorem depth_kLs : ∀ w : Wrd, NestedKey.depthAll (w.map kL) ≤ 1
  | [] => by simp [NestedKey.depthAll]
  | a :: w => by have := depth_kLs w; have := depth_kL a; simp only [List.map_cons, NestedKey.depthAll]; omega
theorem depth_kWd (w : Wrd) : (kWd w).depth ≤ 2 := by have := depth_kLs w; simp only [kWd, NestedKey.depth]; omega
def kW : KE Wrd where
  enc := WdD
  key := kWd
  ok w := by
    show keyOk (.tup (w.map LtD)) = _
    have h := nk_WdD w
    have hd := depth_kWd w
    unfold WdD at h
    simp only [keyOk, h, Option.bind_some]
    rw [if_pos (by omega)]
  inj _ _ h := kWd_inj h
def WpD (p : Wrd × Wrd) : D := .tup [WdD p.1, WdD p.2]
def kWW : KE (Wrd × Wrd) where
  enc := WpD
  key p := .tup [kWd p.1, kWd p.2]
  ok p := by
    have h : D.nk (WpD p) = some (.tup [kWd p.1, kWd p.2]) := by simp only [WpD, D.nk, D.nks, nk_WdD]
    have hd := depth_kWd p.1
    have hd2 := depth_kWd p.2
    unfold WpD at h
    show keyOk (.tup [WdD p.1, WdD p.2]) = _
    simp only [keyOk, h, Option.bind_some]
    rw [if_pos (by simp only [NestedKey.depth, NestedKey.depthAll]; omega)]
  inj p q h := by
    injection h with h
    injection h with h1 h2
    injection h2 with h2 _
    exact Prod.ext (kWd_inj h1) (kWd_inj h2)
end DS
end

section
set_option Elab.async false
set_option linter.all false
set_option maxRecDepth 100000
set_option maxHeartbeats 1000000
namespace DS
open PySem
/-! ### the denotations step by step (for simp): what stands behind a part waits until the part is known -/
variable {d x y e k v : D} {r r1 r2 : DV} {s : DEnv} {b : Bool} {i j : Nat} {n : Int} {l l2 : List D} {as : List AV} {dv : DV} {ds : List DV} {o o2 : Option Int} {q : NestedKey}
def kSeq (u : TM) : Option (Out × DEnv) → Option (Out × DEnv)
  | some (.nx, s) => u s
  | some (.rt r, s) => some (.rt r, s)
  | some (.bk, s) => some (.bk, s)
  | some (.ct, s) => some (.ct, s)
  | _ => none
@[simp] theorem kSeq_1 (u : TM) : kSeq u (some (.nx, s)) = u s := (rfl)
@[simp] theorem kSeq_2 (u : TM) : kSeq u (some (.rt r, s)) = some (.rt r, s) := (rfl)
@[simp] theorem kSeq_3 (u : TM) : kSeq u (some (.bk, s)) = some (.bk, s) := (rfl)
@[simp] theorem kSeq_4 (u : TM) : kSeq u (some (.ct, s)) = some (.ct, s) := (rfl)
@[simp] theorem dSeq_s (t u : TM) (sd : DEnv) : dSeq t u sd = kSeq u (t sd) := by unfold dSeq; rcases t sd with _ | ⟨o, s⟩ <;> first | rfl | (cases o <;> rfl)
def kSet (i : Nat) : Option (DV × DEnv) → Option (Out × DEnv)
  | some (r, s) => some (.nx, s.set i (some r))
  | _ => none
@[simp] theorem kSet_5 (i : Nat) : kSet i (some (r, s)) = some (.nx, s.set i (some r)) := (rfl)
@[simp] theorem dSet_s (i : Nat) (t : TV) (sd : DEnv) : dSet i t sd = kSet i (t sd) := by unfold dSet; rcases t sd with _ | ⟨o, s⟩ <;> rfl
def kRet  : Option (DV × DEnv) → Option (Out × DEnv)
  | some (r, s) => some (.rt r, s)
  | _ => none
@[simp] theorem kRet_6  : kRet  (some (r, s)) = some (.rt r, s) := (rfl)
@[simp] theorem dRet_s (t : TV) (sd : DEnv) : dRet t sd = kRet (t sd) := by unfold dRet; rcases t sd with _ | ⟨o, s⟩ <;> rfl
def kIfS (t u : TM) : Option (Bool × DEnv) → Option (Out × DEnv)
  | some (true, s) => t s
  | some (false, s) => u s
  | _ => none
@[simp] theorem kIfS_7 (t u : TM) : kIfS t u (some (true, s)) = t s := (rfl)
@[simp] theorem kIfS_8 (t u : TM) : kIfS t u (some (false, s)) = u s := (rfl)
@[simp] theorem dIfS_s (c : TB) (t u : TM) (sd : DEnv) : dIfS c t u sd = kIfS t u (c sd) := by unfold dIfS; rcases c sd with _ | ⟨o, s⟩ <;> first | rfl | (cases o <;> rfl)
def kIf (t u : TF) : Option (Bool × DEnv) → Option (D × DEnv)
  | some (true, s) => t s
  | some (false, s) => u s
  | _ => none
@[simp] theorem kIf_9 (t u : TF) : kIf t u (some (true, s)) = t s := (rfl)
@[simp] theorem kIf_10 (t u : TF) : kIf t u (some (false, s)) = u s := (rfl)
@[simp] theorem dIf_s (c : TB) (t u : TF) (sd : DEnv) : dIf c t u sd = kIf t u (c sd) := by unfold dIf; rcases c sd with _ | ⟨o, s⟩ <;> first | rfl | (cases o <;> rfl)
def kIfV (t u : TV) : Option (Bool × DEnv) → Option (DV × DEnv)
  | some (true, s) => t s
  | some (false, s) => u s
  | _ => none
@[simp] theorem kIfV_11 (t u : TV) : kIfV t u (some (true, s)) = t s := (rfl)
@[simp] theorem kIfV_12 (t u : TV) : kIfV t u (some (false, s)) = u s := (rfl)
@[simp] theorem dIfV_s (c : TB) (t u : TV) (sd : DEnv) : dIfV c t u sd = kIfV t u (c sd) := by unfold dIfV; rcases c sd with _ | ⟨o, s⟩ <;> first | rfl | (cases o <;> rfl)
def kExp  : Option (D × DEnv) → Option (Out × DEnv)
  | some (d, s) => some (.nx, s)
  | _ => none
@[simp] theorem kExp_13  : kExp  (some (d, s)) = some (.nx, s) := (rfl)
@[simp] theorem dExp_s (t : TF) (sd : DEnv) : dExp t sd = kExp (t sd) := by unfold dExp; rcases t sd with _ | ⟨o, s⟩ <;> rfl
def kAsg2  : Option (DEnv) → Option (Out × DEnv)
  | some s => some (.nx, s)
  | _ => none
@[simp] theorem kAsg2_14  : kAsg2  (some s) = some (.nx, s) := (rfl)
def kAsg (g : BG) : Option (D × DEnv) → Option (Out × DEnv)
  | some (d, s) => kAsg2 (g d s)
  | _ => none
@[simp] theorem kAsg_15 (g : BG) : kAsg g (some (d, s)) = kAsg2 (g d s) := (rfl)
@[simp] theorem dAsgG_s (t : TF) (g : BG) (sd : DEnv) : dAsgG t g sd = kAsg g (t sd) := by unfold dAsgG; rcases t sd with _ | ⟨o, s⟩ <;> first | rfl | (show (g o s).bind _ = kAsg2 (g o s); cases g o s <;> rfl)
def kPar (i j : Nat) : Option (List AV × DEnv) → Option (Out × DEnv)
  | some ([.v r1, .v r2], s) => some (.nx, (s.set i (some r1)).set j (some r2))
  | _ => none
@[simp] theorem kPar_16 (i j : Nat) : kPar i j (some ([.v r1, .v r2], s)) = some (.nx, (s.set i (some r1)).set j (some r2)) := (rfl)
@[simp] theorem dPar_s (i j : Nat) (t : TAr) (sd : DEnv) : dPar i j t sd = kPar i j (t sd) := by unfold dPar; rcases t sd with _ | ⟨o, s⟩ <;> first | rfl | (rw [Option.bind_some]; unfold kPar; split <;> first | rfl | (split <;> first | rfl | simp_all))
def kFor (g : BG) (body : TM) : Option (List D × DEnv) → Option (Out × DEnv)
  | some (l, s) => dForL g body l s
  | _ => none
@[simp] theorem kFor_17 (g : BG) (body : TM) : kFor g body (some (l, s)) = dForL g body l s := (rfl)
@[simp] theorem dFor_s (w : TW) (g : BG) (body : TM) (sd : DEnv) : dFor w g body sd = kFor g body (w sd) := by unfold dFor; rcases w sd with _ | ⟨o, s⟩ <;> rfl
def kB3 (s : DEnv) : Option (D) → Option (D × DEnv)
  | some d => some (d, s)
  | _ => none
@[simp] theorem kB3_18 (s : DEnv) : kB3 s (some d) = some (d, s) := (rfl)
def kBin2 (f : F2) (x : D) : Option (D × DEnv) → Option (D × DEnv)
  | some (y, s) => kB3 s (f x y)
  | _ => none
@[simp] theorem kBin2_19 (f : F2) (x : D) : kBin2 f x (some (y, s)) = kB3 s (f x y) := (rfl)
def kBin (f : F2) (t : TF) : Option (D × DEnv) → Option (D × DEnv)
  | some (x, s) => kBin2 f x (t s)
  | _ => none
@[simp] theorem kBin_20 (f : F2) (t : TF) : kBin f t (some (x, s)) = kBin2 f x (t s) := (rfl)
@[simp] theorem dBin_s (f : F2) (ta tb : TF) (sd : DEnv) : dBin f ta tb sd = kBin f tb (ta sd) := by unfold dBin; rcases ta sd with _ | ⟨x, s⟩ <;> first | rfl | (show (tb s).bind _ = kBin2 f x (tb s); rcases tb s with _ | ⟨y, s2⟩ <;> first | rfl | (show (f x y).bind _ = kB3 s2 (f x y); cases f x y <;> rfl))
def kBinS2 (f : F2) (x : D) (s : DEnv) : Option (Option DV) → Option (D × DEnv)
  | some (some dv) => kB3 s (f x dv.d)
  | _ => none
@[simp] theorem kBinS2_21 (f : F2) (x : D) (s : DEnv) : kBinS2 f x s (some (some dv)) = kB3 s (f x dv.d) := (rfl)
def kBinS (f : F2) (i : Nat) : Option (D × DEnv) → Option (D × DEnv)
  | some (x, s) => kBinS2 f x s (s[i]?)
  | _ => none
@[simp] theorem kBinS_22 (f : F2) (i : Nat) : kBinS f i (some (x, s)) = kBinS2 f x s (s[i]?) := (rfl)
@[simp] theorem dBinS_s (f : F2) (ta : TF) (i : Nat) (sd : DEnv) : dBinS f ta i sd = kBinS f i (ta sd) := by unfold dBinS; rcases ta sd with _ | ⟨x, s⟩ <;> first | rfl | (show (match s[i]? with | some (some dv) => _ | _ => _) = kBinS2 f x s (s[i]?); rcases s[i]? with _ | (_ | dv) <;> first | rfl | (show (f x dv.d).bind _ = kB3 s (f x dv.d); cases f x dv.d <;> rfl))
def kVar (i : Nat) (s : DEnv) : Option (Option DV) → Option (D × DEnv)
  | some (some (.fz d)) => some (d, s)
  | some (some (.ow d)) => some (d, s.set i (some (.fz d)))
  | _ => none
@[simp] theorem kVar_23 (i : Nat) (s : DEnv) : kVar i s (some (some (.fz d))) = some (d, s) := (rfl)
@[simp] theorem kVar_24 (i : Nat) (s : DEnv) : kVar i s (some (some (.ow d))) = some (d, s.set i (some (.fz d))) := (rfl)
@[simp] theorem dVar_s (i : Nat) (sd : DEnv) : dVar i sd = kVar i sd (sd[i]?) := by unfold dVar; rcases sd[i]? with _ | (_ | (d | d)) <;> rfl
def kTake (i : Nat) (s : DEnv) : Option (Option DV) → Option (DV × DEnv)
  | some (some (.fz d)) => some (.fz d, s)
  | some (some (.ow d)) => some (.ow d, s.set i none)
  | _ => none
@[simp] theorem kTake_25 (i : Nat) (s : DEnv) : kTake i s (some (some (.fz d))) = some (.fz d, s) := (rfl)
@[simp] theorem kTake_26 (i : Nat) (s : DEnv) : kTake i s (some (some (.ow d))) = some (.ow d, s.set i none) := (rfl)
@[simp] theorem dTake_s (i : Nat) (sd : DEnv) : dTake i sd = kTake i sd (sd[i]?) := by unfold dTake; rcases sd[i]? with _ | (_ | (d | d)) <;> rfl
@[simp] theorem dC_s (d : D) (sd : DEnv) : dC d sd = some (d, sd) := by rfl
@[simp] theorem dNil_s (sd : DEnv) : dNil sd = some ([], sd) := by rfl
@[simp] theorem aNil_s (sd : DEnv) : aNil sd = some ([], sd) := by rfl
@[simp] theorem dNext_s (sd : DEnv) : dNext sd = some (.nx, sd) := by rfl
@[simp] theorem dPass_s (sd : DEnv) : dPass sd = some (.nx, sd) := by rfl
@[simp] theorem dBrk_s (sd : DEnv) : dBrk sd = some (.bk, sd) := by rfl
@[simp] theorem dCnt_s (sd : DEnv) : dCnt sd = some (.ct, sd) := by rfl
@[simp] theorem dYes_s (sd : DEnv) : dYes sd = some (true, sd) := by rfl
@[simp] theorem dDnew_s (sd : DEnv) : dDnew sd = some (.ow (.dct []), sd) := by rfl
@[simp] theorem dNoPt_s (sd : DEnv) : dNoPt sd = some (none, sd) := by rfl
@[simp] theorem dNever_s (sd : DEnv) : dNever sd = none := by rfl
def kTup  : Option (List D × DEnv) → Option (D × DEnv)
  | some (l, s) => if l.length ≤ sizeLine then some (.tup l, s) else none
  | _ => none
@[simp] theorem kTup_27  : kTup  (some (l, s)) = if l.length ≤ sizeLine then some (.tup l, s) else none := (rfl)
@[simp] theorem dTup_s (t : TL) (sd : DEnv) : dTup t sd = kTup (t sd) := by unfold dTup; rcases t sd with _ | ⟨o, s⟩ <;> rfl
def kLst  : Option (List D × DEnv) → Option (DV × DEnv)
  | some (l, s) => if l.length ≤ sizeLine then some (.ow (.lst l), s) else none
  | _ => none
@[simp] theorem kLst_28  : kLst  (some (l, s)) = if l.length ≤ sizeLine then some (.ow (.lst l), s) else none := (rfl)
@[simp] theorem dLst_s (t : TL) (sd : DEnv) : dLst t sd = kLst (t sd) := by unfold dLst; rcases t sd with _ | ⟨o, s⟩ <;> rfl
def kCons2 (d : D) : Option (List D × DEnv) → Option (List D × DEnv)
  | some (l, s) => some (d :: l, s)
  | _ => none
@[simp] theorem kCons2_29 (d : D) : kCons2 d (some (l, s)) = some (d :: l, s) := (rfl)
def kCons (t : TL) : Option (D × DEnv) → Option (List D × DEnv)
  | some (d, s) => kCons2 d (t s)
  | _ => none
@[simp] theorem kCons_30 (t : TL) : kCons t (some (d, s)) = kCons2 d (t s) := (rfl)
@[simp] theorem dCons_s (t : TF) (u : TL) (sd : DEnv) : dCons t u sd = kCons u (t sd) := by unfold dCons; rcases t sd with _ | ⟨x, s⟩ <;> first | rfl | (show (u s).bind _ = kCons2 x (u s); rcases u s with _ | ⟨y, s2⟩ <;> rfl)
def kIxV2 (x : D) (s : DEnv) : Option (Option DV) → Option (D × DEnv)
  | some (some dv) => kB3 s (itemD dv.d x)
  | _ => none
@[simp] theorem kIxV2_31 (x : D) (s : DEnv) : kIxV2 x s (some (some dv)) = kB3 s (itemD dv.d x) := (rfl)
def kIxV (i : Nat) : Option (D × DEnv) → Option (D × DEnv)
  | some (x, s) => kIxV2 x s (s[i]?)
  | _ => none
@[simp] theorem kIxV_32 (i : Nat) : kIxV i (some (x, s)) = kIxV2 x s (s[i]?) := (rfl)
def kIxV0 (i : Nat) (t : TF) (s : DEnv) : Option (Option DV) → Option (D × DEnv)
  | some (some dv) => kIxV i (t s)
  | _ => none
@[simp] theorem kIxV0_33 (i : Nat) (t : TF) (s : DEnv) : kIxV0 i t s (some (some dv)) = kIxV i (t s) := (rfl)
@[simp] theorem dIxV_s (i : Nat) (t : TF) (sd : DEnv) : dIxV i t sd = kIxV0 i t sd (sd[i]?) := by unfold dIxV; rcases sd[i]? with _ | (_ | dv) <;> first | rfl | (show (t sd).bind _ = kIxV i (t sd); rcases t sd with _ | ⟨x, s⟩ <;> first | rfl | (show (match s[i]? with | some (some dv) => _ | _ => _) = kIxV2 x s (s[i]?); rcases s[i]? with _ | (_ | dv) <;> first | rfl | (show (itemD dv.d x).bind _ = kB3 s (itemD dv.d x); cases itemD dv.d x <;> rfl)))
def kIsS (T : String) (s : DEnv) : Option (Option DV) → Option (D × DEnv)
  | some (some dv) => kB3 s (isiD T dv.d)
  | _ => none
@[simp] theorem kIsS_34 (T : String) (s : DEnv) : kIsS T s (some (some dv)) = kB3 s (isiD T dv.d) := (rfl)
@[simp] theorem dIsS_s (i : Nat) (T : String) (sd : DEnv) : dIsS i T sd = kIsS T sd (sd[i]?) := by unfold dIsS; rcases sd[i]? with _ | (_ | dv) <;> first | rfl | (show (isiD T dv.d).bind _ = kB3 sd (isiD T dv.d); cases isiD T dv.d <;> rfl)
def kTst  : Option (D × DEnv) → Option (Bool × DEnv)
  | some (.bl b, s) => some (b, s)
  | _ => none
@[simp] theorem kTst_35  : kTst  (some (.bl b, s)) = some (b, s) := (rfl)
@[simp] theorem dTst_s (t : TF) (sd : DEnv) : dTst t sd = kTst (t sd) := by unfold dTst; rcases t sd with _ | ⟨d, s⟩ <;> first | rfl | (cases d <;> rfl)
def kAnd (u : TB) : Option (Bool × DEnv) → Option (Bool × DEnv)
  | some (true, s) => u s
  | some (false, s) => some (false, s)
  | _ => none
@[simp] theorem kAnd_36 (u : TB) : kAnd u (some (true, s)) = u s := (rfl)
@[simp] theorem kAnd_37 (u : TB) : kAnd u (some (false, s)) = some (false, s) := (rfl)
@[simp] theorem dAnd_s (t u : TB) (sd : DEnv) : dAnd t u sd = kAnd u (t sd) := by unfold dAnd; rcases t sd with _ | ⟨o, s⟩ <;> first | rfl | (cases o <;> rfl)
def kOr (u : TB) : Option (Bool × DEnv) → Option (Bool × DEnv)
  | some (true, s) => some (true, s)
  | some (false, s) => u s
  | _ => none
@[simp] theorem kOr_38 (u : TB) : kOr u (some (true, s)) = some (true, s) := (rfl)
@[simp] theorem kOr_39 (u : TB) : kOr u (some (false, s)) = u s := (rfl)
@[simp] theorem dOr_s (t u : TB) (sd : DEnv) : dOr t u sd = kOr u (t sd) := by unfold dOr; rcases t sd with _ | ⟨o, s⟩ <;> first | rfl | (cases o <;> rfl)
def kNot  : Option (Bool × DEnv) → Option (Bool × DEnv)
  | some (b, s) => some (!b, s)
  | _ => none
@[simp] theorem kNot_40  : kNot  (some (b, s)) = some (!b, s) := (rfl)
@[simp] theorem dNot_s (t : TB) (sd : DEnv) : dNot t sd = kNot (t sd) := by unfold dNot; rcases t sd with _ | ⟨o, s⟩ <;> rfl
def kAndV (u : TF) : Option (D × DEnv) → Option (D × DEnv)
  | some (.bl true, s) => u s
  | some (.bl false, s) => some (.bl false, s)
  | _ => none
@[simp] theorem kAndV_41 (u : TF) : kAndV u (some (.bl true, s)) = u s := (rfl)
@[simp] theorem kAndV_42 (u : TF) : kAndV u (some (.bl false, s)) = some (.bl false, s) := (rfl)
@[simp] theorem dAndV_s (t u : TF) (sd : DEnv) : dAndV t u sd = kAndV u (t sd) := by unfold dAndV; rcases t sd with _ | ⟨d, s⟩ <;> first | rfl | (cases d <;> first | rfl | (rename_i b; cases b <;> rfl))
def kOrV (u : TF) : Option (D × DEnv) → Option (D × DEnv)
  | some (.bl true, s) => some (.bl true, s)
  | some (.bl false, s) => u s
  | _ => none
@[simp] theorem kOrV_43 (u : TF) : kOrV u (some (.bl true, s)) = some (.bl true, s) := (rfl)
@[simp] theorem kOrV_44 (u : TF) : kOrV u (some (.bl false, s)) = u s := (rfl)
@[simp] theorem dOrV_s (t u : TF) (sd : DEnv) : dOrV t u sd = kOrV u (t sd) := by unfold dOrV; rcases t sd with _ | ⟨d, s⟩ <;> first | rfl | (cases d <;> first | rfl | (rename_i b; cases b <;> rfl))
def kNotV  : Option (D × DEnv) → Option (D × DEnv)
  | some (.bl b, s) => some (.bl (!b), s)
  | _ => none
@[simp] theorem kNotV_45  : kNotV  (some (.bl b, s)) = some (.bl (!b), s) := (rfl)
@[simp] theorem dNotV_s (t : TF) (sd : DEnv) : dNotV t sd = kNotV (t sd) := by unfold dNotV; rcases t sd with _ | ⟨d, s⟩ <;> first | rfl | (cases d <;> rfl)
def kOf  : Option (D × DEnv) → Option (DV × DEnv)
  | some (d, s) => some (.fz d, s)
  | _ => none
@[simp] theorem kOf_46  : kOf  (some (d, s)) = some (.fz d, s) := (rfl)
@[simp] theorem ofF_s (t : TF) (sd : DEnv) : ofF t sd = kOf (t sd) := by unfold ofF; rcases t sd with _ | ⟨d, s⟩ <;> rfl
def kIce  : Option (DV × DEnv) → Option (D × DEnv)
  | some (r, s) => some (r.d, s)
  | _ => none
@[simp] theorem kIce_47  : kIce  (some (r, s)) = some (r.d, s) := (rfl)
@[simp] theorem ice_s (t : TV) (sd : DEnv) : ice t sd = kIce (t sd) := by unfold ice; rcases t sd with _ | ⟨d, s⟩ <;> rfl
def kVr (s : DEnv) : Option (DV) → Option (DV × DEnv)
  | some r => some (r, s)
  | _ => none
@[simp] theorem kVr_48 (s : DEnv) : kVr s (some r) = some (r, s) := (rfl)
def kBI2 (g : FB) (s : DEnv) : Option (List DV) → Option (DV × DEnv)
  | some ds => kVr s (g (ds.map DV.d))
  | _ => none
@[simp] theorem kBI2_49 (g : FB) (s : DEnv) : kBI2 g s (some ds) = kVr s (g (ds.map DV.d)) := (rfl)
def kBI (g : FB) : Option (List AV × DEnv) → Option (DV × DEnv)
  | some (as, s) => kBI2 g s (argsOf s as)
  | _ => none
@[simp] theorem kBI_50 (g : FB) : kBI g (some (as, s)) = kBI2 g s (argsOf s as) := (rfl)
@[simp] theorem dBI_s (g : FB) (t : TAr) (sd : DEnv) : dBI g t sd = kBI g (t sd) := by unfold dBI; rcases t sd with _ | ⟨as, s⟩ <;> first | rfl | (show (argsOf s as).bind _ = kBI2 g s (argsOf s as); rcases argsOf s as with _ | ds <;> first | rfl | (show (g (ds.map DV.d)).bind _ = kVr s (g (ds.map DV.d)); cases g (ds.map DV.d) <;> rfl))
def kAV2 (r : DV) : Option (List AV × DEnv) → Option (List AV × DEnv)
  | some (as, s) => some (.v r :: as, s)
  | _ => none
@[simp] theorem kAV2_51 (r : DV) : kAV2 r (some (as, s)) = some (.v r :: as, s) := (rfl)
def kAV (u : TAr) : Option (DV × DEnv) → Option (List AV × DEnv)
  | some (r, s) => kAV2 r (u s)
  | _ => none
@[simp] theorem kAV_52 (u : TAr) : kAV u (some (r, s)) = kAV2 r (u s) := (rfl)
@[simp] theorem aVal_s (t : TV) (u : TAr) (sd : DEnv) : aVal t u sd = kAV u (t sd) := by unfold aVal; rcases t sd with _ | ⟨r, s⟩ <;> first | rfl | (show (u s).bind _ = kAV2 r (u s); rcases u s with _ | ⟨as, s2⟩ <;> rfl)
def kAS3 (i : Nat) (as : List AV) (s : DEnv) : Option (Option DV) → Option (List AV × DEnv)
  | some (some dv) => some (.s i :: as, s)
  | _ => none
@[simp] theorem kAS3_53 (i : Nat) (as : List AV) (s : DEnv) : kAS3 i as s (some (some dv)) = some (.s i :: as, s) := (rfl)
def kAS2 (i : Nat) : Option (List AV × DEnv) → Option (List AV × DEnv)
  | some (as, s) => kAS3 i as s (s[i]?)
  | _ => none
@[simp] theorem kAS2_54 (i : Nat) : kAS2 i (some (as, s)) = kAS3 i as s (s[i]?) := (rfl)
def kAS (i : Nat) (u : TAr) (s : DEnv) : Option (Option DV) → Option (List AV × DEnv)
  | some (some dv) => kAS2 i (u s)
  | _ => none
@[simp] theorem kAS_55 (i : Nat) (u : TAr) (s : DEnv) : kAS i u s (some (some dv)) = kAS2 i (u s) := (rfl)
@[simp] theorem aSlot_s (i : Nat) (u : TAr) (sd : DEnv) : aSlot i u sd = kAS i u sd (sd[i]?) := by unfold aSlot; rcases sd[i]? with _ | (_ | dv) <;> first | rfl | (show (u sd).bind _ = kAS2 i (u sd); rcases u sd with _ | ⟨as, s⟩ <;> first | rfl | (show (match s[i]? with | some (some _) => _ | _ => _) = kAS3 i as s (s[i]?); rcases s[i]? with _ | (_ | dv) <;> rfl))
def kRs2 (as : List AV) (s : DEnv) (n : Nat) : Option (DV × List DV) → Option (DV × DEnv)
  | some (r, ds) => if ds.length = n then some (r, backTo' as ds s) else none
  | _ => none
@[simp] theorem kRs2_56 (as : List AV) (s : DEnv) (n : Nat) : kRs2 as s n (some (r, ds)) = if ds.length = n then some (r, backTo' as ds s) else none := (rfl)
def kRs (f : Sem) (as : List AV) (s : DEnv) : Option (List DV) → Option (DV × DEnv)
  | some ds => kRs2 as s ds.length (f ds)
  | _ => none
@[simp] theorem kRs_57 (f : Sem) (as : List AV) (s : DEnv) : kRs f as s (some ds) = kRs2 as s ds.length (f ds) := (rfl)
@[simp] theorem runSem_s (f : Sem) (as : List AV) (sd : DEnv) : runSem f as sd = if (slotsOf as).Nodup then kRs f as sd (argsOf sd as) else none := by unfold runSem; split <;> first | rfl | (rcases argsOf sd as with _ | ds <;> first | rfl | (show (f ds).bind _ = kRs2 as sd ds.length (f ds); rcases f ds with _ | ⟨r, e⟩ <;> rfl))
def kCall (f : Sem) : Option (List AV × DEnv) → Option (DV × DEnv)
  | some (as, s) => runSem f as s
  | _ => none
@[simp] theorem kCall_58 (f : Sem) : kCall f (some (as, s)) = runSem f as s := (rfl)
@[simp] theorem dCall_s (f : Sem) (t : TAr) (sd : DEnv) : dCall f t sd = kCall f (t sd) := by unfold dCall; rcases t sd with _ | ⟨as, s⟩ <;> rfl
def kCallK (n : Nat) (f : Sem) (pm : List Nat) : Option (List AV × DEnv) → Option (DV × DEnv)
  | some (as, s) => if as.all noRoot = true ∧ as.length = n then runSem f (pick pm as) s else none
  | _ => none
@[simp] theorem kCallK_59 (n : Nat) (f : Sem) (pm : List Nat) : kCallK n f pm (some (as, s)) = if as.all noRoot = true ∧ as.length = n then runSem f (pick pm as) s else none := (rfl)
@[simp] theorem dCallK_s (n : Nat) (f : Sem) (pm : List Nat) (t : TAr) (sd : DEnv) : dCallK n f pm t sd = kCallK n f pm (t sd) := by unfold dCallK; rcases t sd with _ | ⟨as, s⟩ <;> rfl
@[simp] theorem bName_s (i : Nat) (d : D) (sd : DEnv) : bName i d sd = some (sd.set i (some (.fz d))) := by rfl
@[simp] theorem bTup_s (n : Nat) (r : BGs) (l : List D) (sd : DEnv) : bTup n r (.tup l) sd = if l.length = n then r l sd else none := by rfl
def kB (r : BGs) (l : List D) : Option (DEnv) → Option (DEnv)
  | some s => r l s
  | _ => none
@[simp] theorem kB_60 (r : BGs) (l : List D) : kB r l (some s) = r l s := (rfl)
@[simp] theorem bCons_s (b : BG) (r : BGs) (d : D) (l : List D) (sd : DEnv) : bCons b r (d :: l) sd = kB r l (b d sd) := by show (b d sd).bind _ = _; cases b d sd <;> rfl
@[simp] theorem bNil_s (sd : DEnv) : bNil [] sd = some sd := by rfl
def kS4 (i : Nat) (s : DEnv) : Option (D) → Option (DEnv)
  | some d => some (s.set i (some (.ow d)))
  | _ => none
@[simp] theorem kS4_61 (i : Nat) (s : DEnv) : kS4 i s (some d) = some (s.set i (some (.ow d))) := (rfl)
def kS3 (i : Nat) (d k : D) (s : DEnv) : Option (Option DV) → Option (DEnv)
  | some (some (.ow x)) => kS4 i s (setD x k d)
  | _ => none
@[simp] theorem kS3_62 (i : Nat) (d k : D) (s : DEnv) : kS3 i d k s (some (some (.ow x))) = kS4 i s (setD x k d) := (rfl)
def kS2 (i : Nat) (d : D) : Option (D × DEnv) → Option (DEnv)
  | some (k, s) => kS3 i d k s (s[i]?)
  | _ => none
@[simp] theorem kS2_63 (i : Nat) (d : D) : kS2 i d (some (k, s)) = kS3 i d k s (s[i]?) := (rfl)
def kS (i : Nat) (t : TF) (d : D) (s : DEnv) : Option (Option DV) → Option (DEnv)
  | some (some (.ow x)) => kS2 i d (t s)
  | _ => none
@[simp] theorem kS_64 (i : Nat) (t : TF) (d : D) (s : DEnv) : kS i t d s (some (some (.ow x))) = kS2 i d (t s) := (rfl)
@[simp] theorem bSub_s (i : Nat) (t : TF) (d : D) (sd : DEnv) : bSub i t d sd = kS i t d sd (sd[i]?) := by unfold bSub; rcases sd[i]? with _ | (_ | (x | x)) <;> first | rfl | (show (t sd).bind _ = kS2 i d (t sd); rcases t sd with _ | ⟨k, s⟩ <;> first | rfl | (show (match s[i]? with | some (some (.ow c0)) => _ | _ => _) = kS3 i d k s (s[i]?); rcases s[i]? with _ | (_ | (y | y)) <;> first | rfl | (show (setD y k d).bind _ = kS4 i s (setD y k d); cases setD y k d <;> rfl)))
def kWEn  : Option (D × DEnv) → Option (List D × DEnv)
  | some (.lst l, s) => some (enumL 0 l, s)
  | some (.tup l, s) => some (enumL 0 l, s)
  | _ => none
@[simp] theorem kWEn_65  : kWEn  (some (.lst l, s)) = some (enumL 0 l, s) := (rfl)
@[simp] theorem kWEn_66  : kWEn  (some (.tup l, s)) = some (enumL 0 l, s) := (rfl)
@[simp] theorem dWEn_s (t : TF) (sd : DEnv) : dWEn t sd = kWEn (t sd) := by unfold dWEn; rcases t sd with _ | ⟨d, s⟩ <;> first | rfl | (cases d <;> rfl)
def kWSeq  : Option (D × DEnv) → Option (List D × DEnv)
  | some (.lst l, s) => some (l, s)
  | some (.tup l, s) => some (l, s)
  | some (.kl l, s) => some (l, s)
  | _ => none
@[simp] theorem kWSeq_67  : kWSeq  (some (.lst l, s)) = some (l, s) := (rfl)
@[simp] theorem kWSeq_68  : kWSeq  (some (.tup l, s)) = some (l, s) := (rfl)
@[simp] theorem kWSeq_69  : kWSeq  (some (.kl l, s)) = some (l, s) := (rfl)
@[simp] theorem dWSeq_s (t : TF) (sd : DEnv) : dWSeq t sd = kWSeq (t sd) := by unfold dWSeq; rcases t sd with _ | ⟨d, s⟩ <;> first | rfl | (cases d <;> rfl)
def kWIt  : Option (D × DEnv) → Option (List D × DEnv)
  | some (.dct l, s) => some (l, s)
  | _ => none
@[simp] theorem kWIt_70  : kWIt  (some (.dct l, s)) = some (l, s) := (rfl)
@[simp] theorem dWIt_s (t : TF) (sd : DEnv) : dWIt t sd = kWIt (t sd) := by unfold dWIt; rcases t sd with _ | ⟨d, s⟩ <;> first | rfl | (cases d <;> rfl)
def kZip2 (x : D) : Option (D × DEnv) → Option (List D × DEnv)
  | some (y, s) => (match x, y with | .lst a, .lst c => some (zipL a c, s) | .tup a, .tup c => some (zipL a c, s) | _, _ => none)
  | _ => none
@[simp] theorem kZip2_71 (x : D) : kZip2 x (some (y, s)) = (match x, y with | .lst a, .lst c => some (zipL a c, s) | .tup a, .tup c => some (zipL a c, s) | _, _ => none) := (rfl)
def kZip (u : TF) : Option (D × DEnv) → Option (List D × DEnv)
  | some (x, s) => kZip2 x (u s)
  | _ => none
@[simp] theorem kZip_72 (u : TF) : kZip u (some (x, s)) = kZip2 x (u s) := (rfl)
@[simp] theorem dWZp_s (t u : TF) (sd : DEnv) : dWZp t u sd = kZip u (t sd) := by unfold dWZp; rcases t sd with _ | ⟨x, s⟩ <;> first | rfl | (show (u s).bind _ = kZip2 x (u s); rcases u s with _ | ⟨y, s2⟩ <;> rfl)
def kApp2 (i : Nat) (x : D) (s : DEnv) : Option (Option DV) → Option (D × DEnv)
  | some (some (.ow (.lst l))) => if l.length < sizeLine then some (.non, s.set i (some (.ow (.lst (l ++ [x]))))) else none
  | _ => none
@[simp] theorem kApp2_73 (i : Nat) (x : D) (s : DEnv) : kApp2 i x s (some (some (.ow (.lst l)))) = if l.length < sizeLine then some (.non, s.set i (some (.ow (.lst (l ++ [x]))))) else none := (rfl)
def kApp (i : Nat) : Option (D × DEnv) → Option (D × DEnv)
  | some (x, s) => kApp2 i x s (s[i]?)
  | _ => none
@[simp] theorem kApp_74 (i : Nat) : kApp i (some (x, s)) = kApp2 i x s (s[i]?) := (rfl)
def kApp0 (i : Nat) (t : TF) (s : DEnv) : Option (Option DV) → Option (D × DEnv)
  | some (some (.ow (.lst l))) => kApp i (t s)
  | _ => none
@[simp] theorem kApp0_75 (i : Nat) (t : TF) (s : DEnv) : kApp0 i t s (some (some (.ow (.lst l)))) = kApp i (t s) := (rfl)
@[simp] theorem dApp_s (i : Nat) (t : TF) (sd : DEnv) : dApp i t sd = kApp0 i t sd (sd[i]?) := by unfold dApp; rcases sd[i]? with _ | (_ | (x | x)) <;> first | rfl | (cases x <;> first | rfl | (show (t sd).bind _ = kApp i (t sd); rcases t sd with _ | ⟨k, s⟩ <;> first | rfl | (show (match s[i]? with | some (some (.ow (.lst ds))) => _ | _ => _) = kApp2 i k s (s[i]?); rcases s[i]? with _ | (_ | (y | y)) <;> first | rfl | (cases y <;> rfl))))
def kExt2 (i : Nat) (x : D) (s : DEnv) : Option (Option DV) → Option (D × DEnv)
  | some (some (.ow (.lst l))) => (match x with | .lst l2 => if l.length + l2.length ≤ sizeLine then some (.non, s.set i (some (.ow (.lst (l ++ l2))))) else none | _ => none)
  | _ => none
@[simp] theorem kExt2_76 (i : Nat) (x : D) (s : DEnv) : kExt2 i x s (some (some (.ow (.lst l)))) = (match x with | .lst l2 => if l.length + l2.length ≤ sizeLine then some (.non, s.set i (some (.ow (.lst (l ++ l2))))) else none | _ => none) := (rfl)
def kExt (i : Nat) : Option (D × DEnv) → Option (D × DEnv)
  | some (x, s) => kExt2 i x s (s[i]?)
  | _ => none
@[simp] theorem kExt_77 (i : Nat) : kExt i (some (x, s)) = kExt2 i x s (s[i]?) := (rfl)
def kExt0 (i : Nat) (t : TF) (s : DEnv) : Option (Option DV) → Option (D × DEnv)
  | some (some (.ow (.lst l))) => kExt i (t s)
  | _ => none
@[simp] theorem kExt0_78 (i : Nat) (t : TF) (s : DEnv) : kExt0 i t s (some (some (.ow (.lst l)))) = kExt i (t s) := (rfl)
@[simp] theorem dExt_s (i : Nat) (t : TF) (sd : DEnv) : dExt i t sd = kExt0 i t sd (sd[i]?) := by unfold dExt; rcases sd[i]? with _ | (_ | (x | x)) <;> first | rfl | (cases x <;> first | rfl | (show (t sd).bind _ = kExt i (t sd); rcases t sd with _ | ⟨k, s⟩ <;> first | rfl | (show (match s[i]?, k with | some (some (.ow (.lst ds))), .lst es => _ | _, _ => _) = kExt2 i k s (s[i]?); rcases s[i]? with _ | (_ | (y | y)) <;> first | rfl | (cases y <;> first | rfl | (cases k <;> rfl)))))
def kIdx2 (x : D) (s : DEnv) : Option (Option DV) → Option (D × DEnv)
  | some (some dv) => kB3 s (idxD dv.d x)
  | _ => none
@[simp] theorem kIdx2_79 (x : D) (s : DEnv) : kIdx2 x s (some (some dv)) = kB3 s (idxD dv.d x) := (rfl)
def kIdx (i : Nat) : Option (D × DEnv) → Option (D × DEnv)
  | some (x, s) => kIdx2 x s (s[i]?)
  | _ => none
@[simp] theorem kIdx_80 (i : Nat) : kIdx i (some (x, s)) = kIdx2 x s (s[i]?) := (rfl)
def kIdx0 (i : Nat) (t : TF) (s : DEnv) : Option (Option DV) → Option (D × DEnv)
  | some (some dv) => (match dv.d with | .lst _ => kIdx i (t s) | _ => none)
  | _ => none
@[simp] theorem kIdx0_81 (i : Nat) (t : TF) (s : DEnv) : kIdx0 i t s (some (some dv)) = (match dv.d with | .lst _ => kIdx i (t s) | _ => none) := (rfl)
@[simp] theorem dIdx_s (i : Nat) (t : TF) (sd : DEnv) : dIdx i t sd = kIdx0 i t sd (sd[i]?) := by unfold dIdx; rcases sd[i]? with _ | (_ | dv) <;> first | rfl | (show (match dv.d with | .lst _ => _ | _ => _) = (match dv.d with | .lst _ => kIdx i (t sd) | _ => none); cases dv.d <;> first | rfl | (show (t sd).bind _ = kIdx i (t sd); rcases t sd with _ | ⟨k, s⟩ <;> first | rfl | (show (match s[i]? with | some (some dv) => _ | _ => _) = kIdx2 k s (s[i]?); rcases s[i]? with _ | (_ | y) <;> first | rfl | (show (idxD y.d k).bind _ = kB3 s (idxD y.d k); cases idxD y.d k <;> rfl))))
def kGet3 (k x : D) (s : DEnv) : Option (Option DV) → Option (D × DEnv)
  | some (some dv) => kB3 s (getB dv.d k x)
  | _ => none
@[simp] theorem kGet3_82 (k x : D) (s : DEnv) : kGet3 k x s (some (some dv)) = kB3 s (getB dv.d k x) := (rfl)
def kGet2 (i : Nat) (k : D) : Option (D × DEnv) → Option (D × DEnv)
  | some (x, s) => kGet3 k x s (s[i]?)
  | _ => none
@[simp] theorem kGet2_83 (i : Nat) (k : D) : kGet2 i k (some (x, s)) = kGet3 k x s (s[i]?) := (rfl)
def kGet (i : Nat) (u : TF) : Option (D × DEnv) → Option (D × DEnv)
  | some (k, s) => kGet2 i k (u s)
  | _ => none
@[simp] theorem kGet_84 (i : Nat) (u : TF) : kGet i u (some (k, s)) = kGet2 i k (u s) := (rfl)
def kGet0 (i : Nat) (t u : TF) (s : DEnv) : Option (Option DV) → Option (D × DEnv)
  | some (some dv) => if isDct dv.d = true then kGet i u (t s) else none
  | _ => none
@[simp] theorem kGet0_85 (i : Nat) (t u : TF) (s : DEnv) : kGet0 i t u s (some (some dv)) = if isDct dv.d = true then kGet i u (t s) else none := (rfl)
@[simp] theorem dGet_s (i : Nat) (t u : TF) (sd : DEnv) : dGet i t u sd = kGet0 i t u sd (sd[i]?) := by unfold dGet; rcases sd[i]? with _ | (_ | dv) <;> first | rfl | (show (if isDct dv.d = true then _ else _) = (if isDct dv.d = true then kGet i u (t sd) else none); split <;> first | rfl | (rcases t sd with _ | ⟨k, s⟩ <;> first | rfl | (show (u s).bind _ = kGet2 i k (u s); rcases u s with _ | ⟨x, s2⟩ <;> first | rfl | (show (match s2[i]? with | some (some dv) => _ | _ => _) = kGet3 k x s2 (s2[i]?); rcases s2[i]? with _ | (_ | y) <;> first | rfl | (show (getB y.d k x).bind _ = kB3 s2 (getB y.d k x); cases getB y.d k x <;> rfl)))))
def kD3 (d v : D) (s : DEnv) : Option (NestedKey) → Option (DV × DEnv)
  | some q => some (.ow (.dct [.tup [d, v]]), s)
  | _ => none
@[simp] theorem kD3_86 (d v : D) (s : DEnv) : kD3 d v s (some q) = some (.ow (.dct [.tup [d, v]]), s) := (rfl)
def kD2 (d : D) : Option (D × DEnv) → Option (DV × DEnv)
  | some (v, s) => kD3 d v s (keyOk d)
  | _ => none
@[simp] theorem kD2_87 (d : D) : kD2 d (some (v, s)) = kD3 d v s (keyOk d) := (rfl)
def kD1 (u : TF) : Option (D × DEnv) → Option (DV × DEnv)
  | some (d, s) => kD2 d (u s)
  | _ => none
@[simp] theorem kD1_88 (u : TF) : kD1 u (some (d, s)) = kD2 d (u s) := (rfl)
@[simp] theorem dDisp1_s (t u : TF) (sd : DEnv) : dDisp1 t u sd = kD1 u (t sd) := by unfold dDisp1; rcases t sd with _ | ⟨k, s⟩ <;> first | rfl | (show (u s).bind _ = kD2 k (u s); rcases u s with _ | ⟨v, s2⟩ <;> first | rfl | (show (keyOk k).bind _ = kD3 k v s2 (keyOk k); cases keyOk k <;> rfl))
def kRev  : Option (D × DEnv) → Option (DV × DEnv)
  | some (d, s) => kVr s (revD d)
  | _ => none
@[simp] theorem kRev_89  : kRev  (some (d, s)) = kVr s (revD d) := (rfl)
@[simp] theorem dRev_s (t : TF) (sd : DEnv) : dRev t sd = kRev (t sd) := by unfold dRev; rcases t sd with _ | ⟨d, s⟩ <;> first | rfl | (show (revD d).bind _ = kVr s (revD d); cases revD d <;> rfl)
def kSl3 (d : D) (o : Option Int) : Option (Option Int × DEnv) → Option (DV × DEnv)
  | some (o2, s) => kVr s (cutD d o o2)
  | _ => none
@[simp] theorem kSl3_90 (d : D) (o : Option Int) : kSl3 d o (some (o2, s)) = kVr s (cutD d o o2) := (rfl)
def kSl2 (d : D) (h : TPt) : Option (Option Int × DEnv) → Option (DV × DEnv)
  | some (o, s) => kSl3 d o (h s)
  | _ => none
@[simp] theorem kSl2_91 (d : D) (h : TPt) : kSl2 d h (some (o, s)) = kSl3 d o (h s) := (rfl)
def kSl (l h : TPt) : Option (D × DEnv) → Option (DV × DEnv)
  | some (d, s) => kSl2 d h (l s)
  | _ => none
@[simp] theorem kSl_92 (l h : TPt) : kSl l h (some (d, s)) = kSl2 d h (l s) := (rfl)
@[simp] theorem dSl_s (t : TF) (l h : TPt) (sd : DEnv) : dSl t l h sd = kSl l h (t sd) := by unfold dSl; rcases t sd with _ | ⟨d, s⟩ <;> first | rfl | (show (l s).bind _ = kSl2 d h (l s); rcases l s with _ | ⟨o, s2⟩ <;> first | rfl | (show (h s2).bind _ = kSl3 d o (h s2); rcases h s2 with _ | ⟨o2, s3⟩ <;> first | rfl | (show (cutD d o o2).bind _ = kVr s3 (cutD d o o2); cases cutD d o o2 <;> rfl)))
def kPt  : Option (D × DEnv) → Option (Option Int × DEnv)
  | some (.int n, s) => some (some n, s)
  | _ => none
@[simp] theorem kPt_93  : kPt  (some (.int n, s)) = some (some n, s) := (rfl)
@[simp] theorem dPt_s (t : TF) (sd : DEnv) : dPt t sd = kPt (t sd) := by unfold dPt; rcases t sd with _ | ⟨d, s⟩ <;> first | rfl | (cases d <;> rfl)
def kNeg  : Option (D × DEnv) → Option (D × DEnv)
  | some (.int n, s) => some (.int (-n), s)
  | _ => none
@[simp] theorem kNeg_94  : kNeg  (some (.int n, s)) = some (.int (-n), s) := (rfl)
@[simp] theorem dNeg_s (t : TF) (sd : DEnv) : dNeg t sd = kNeg (t sd) := by unfold dNeg; rcases t sd with _ | ⟨d, s⟩ <;> first | rfl | (cases d <;> rfl)
def kLc2 (vs : List Nat) : Option (List D × DEnv) → Option (DV × DEnv)
  | some (l, s) => if l.length ≤ sizeLine then some (.ow (.lst l), wipeD s vs) else none
  | _ => none
@[simp] theorem kLc2_95 (vs : List Nat) : kLc2 vs (some (l, s)) = if l.length ≤ sizeLine then some (.ow (.lst l), wipeD s vs) else none := (rfl)
def kLc (g : BG) (tt : TB) (te : TF) (vs : List Nat) : Option (List D × DEnv) → Option (DV × DEnv)
  | some (l, s) => kLc2 vs (dLcL g tt te vs l s)
  | _ => none
@[simp] theorem kLc_96 (g : BG) (tt : TB) (te : TF) (vs : List Nat) : kLc g tt te vs (some (l, s)) = kLc2 vs (dLcL g tt te vs l s) := (rfl)
@[simp] theorem dLc_s (w : TW) (g : BG) (tt : TB) (te : TF) (vs : List Nat) (sd : DEnv) : dLc w g tt te vs sd = kLc g tt te vs (w sd) := by unfold dLc; rcases w sd with _ | ⟨l, s⟩ <;> first | rfl | (show (dLcL g tt te vs l s).bind _ = kLc2 vs (dLcL g tt te vs l s); rcases dLcL g tt te vs l s with _ | ⟨m, s2⟩ <;> rfl)
def kIts2 (s : DEnv) : Option (List D) → Option (DV × DEnv)
  | some l => some (.ow (.lst l), s)
  | _ => none
@[simp] theorem kIts2_97 (s : DEnv) : kIts2 s (some l) = some (.ow (.lst l), s) := (rfl)
def kIts (f : List D → Option (List D)) : Option (D × DEnv) → Option (DV × DEnv)
  | some (.dct l, s) => kIts2 s (f l)
  | _ => none
@[simp] theorem kIts_98 (f : List D → Option (List D)) : kIts f (some (.dct l, s)) = kIts2 s (f l) := (rfl)
@[simp] theorem dIts_s (f : List D → Option (List D)) (t : TF) (sd : DEnv) : dIts f t sd = kIts f (t sd) := by unfold dIts; rcases t sd with _ | ⟨d, s⟩ <;> first | rfl | (cases d <;> first | rfl | (rename_i l; show (f l).bind _ = kIts2 s (f l); cases f l <;> rfl))
def kR1  : Option (List DV) → Option (List DV)
  | some ds => some ds
  | _ => none
@[simp] theorem kR1_99  : kR1  (some ds) = some ds := (rfl)
def kRt (r : DV) : Option (List DV) → Option (DV × List DV)
  | some ds => some (r, ds)
  | _ => none
@[simp] theorem kRt_100 (r : DV) : kRt r (some ds) = some (r, ds) := (rfl)
def kRun (fx : List Nat) (ds : List DV) : Option (Out × DEnv) → Option (DV × List DV)
  | some (.rt r, s) => kRt r (wbs fx s 0 ds)
  | some (.nx, s) => kRt (.fz .non) (wbs fx s 0 ds)
  | _ => none
@[simp] theorem kRun_101 (fx : List Nat) (ds : List DV) : kRun fx ds (some (.rt r, s)) = kRt r (wbs fx s 0 ds) := (rfl)
@[simp] theorem kRun_102 (fx : List Nat) (ds : List DV) : kRun fx ds (some (.nx, s)) = kRt (.fz .non) (wbs fx s 0 ds) := (rfl)
theorem semOf_s (n N : Nat) (fx : List Nat) (t : TM) (ds : List DV) : semOf n N fx t ds = if ds.length = n then kRun fx ds (t (ds.map some ++ List.replicate (N - n) none)) else none := by
  unfold semOf; split <;> first | rfl | (rcases t (ds.map some ++ List.replicate (N - n) none) with _ | ⟨o, s⟩ <;> first | rfl | (cases o <;> first | rfl | (show (wbs fx s 0 ds).bind _ = kRt _ (wbs fx s 0 ds); cases wbs fx s 0 ds <;> rfl)))
@[simp] theorem argOf_v (sd : DEnv) (r : DV) : argOf sd (.v r) = some r := (rfl)
@[simp] theorem argOf_s (sd : DEnv) (i : Nat) : argOf sd (.s i) = (match sd[i]? with | some (some dv) => some dv | _ => none) := (rfl)
@[simp] theorem argsOf_nil (sd : DEnv) : argsOf sd [] = some [] := (rfl)
@[simp] theorem argsOf_cons (sd : DEnv) (a : AV) (as : List AV) : argsOf sd (a :: as) = (argOf sd a).bind fun d => (argsOf sd as).bind fun ds => some (d :: ds) := (rfl)
@[simp] theorem dvd_fz (d : D) : DV.d (.fz d) = d := (rfl)
@[simp] theorem dvd_ow (d : D) : DV.d (.ow d) = d := (rfl)
/-- a comprehension that only looks -/
theorem lcL_pure {b : BG} {tt : TB} {te : TF} {vs : List Nat} (E0 : DEnv) (F : D → DEnv) (g : D → D) {xs : List D} {sd : DEnv} (step : ∀ x ∈ xs, b x E0 = some (F x) ∧ tt (F x) = some (true, F x) ∧ te (F x) = some (g x, F x) ∧ wipeD (F x) vs = E0) (h : wipeD sd vs = E0) : ∃ sd', dLcL b tt te vs xs sd = some (xs.map g, sd') ∧ wipeD sd' vs = E0 :=
  lcL_map (fun s => wipeD s vs = E0) g xs sd (fun x hx s hs => by
    obtain ⟨h1, h2, h3, h4⟩ := step x hx
    exact ⟨F x, F x, F x, by rw [hs]; exact h1, h2, h3, h4⟩) h
theorem lim62 {n : Nat} (h : n ≤ 1000000) : -(2 ^ 62) ≤ (n : Int) ∧ (n : Int) < 2 ^ 62 := by
  have e : (2 : Int) ^ 62 = 4611686018427387904 := by decide
  rw [e]; omega
def intsD (l : List Nat) : List D := l.map fun (i : Nat) => D.int (i : Int)
theorem dWR1_nat {t : TF} {sd sd' : DEnv} {n : Nat} (e : t sd = some (.int (n : Int), sd')) (h : n ≤ 1000000) : dWR1 t sd = some (intsD (List.range n), sd') := by
  unfold dWR1
  rw [e, Option.bind_some]
  show (if -(2 ^ 62) ≤ (n : Int) ∧ (n : Int) < 2 ^ 62 then some (rngD 0 (n : Int).toNat, sd') else none) = _
  rw [if_pos (lim62 h), Int.toNat_natCast]
  unfold rngD intsD; simp
theorem dWR2_nat {t u : TF} {sd sd1 sd' : DEnv} {m n : Nat} (e : t sd = some (.int (m : Int), sd1)) (e2 : u sd1 = some (.int (n : Int), sd')) (hm : m ≤ 1000000) (h : n ≤ 1000000) : dWR2 t u sd = some (intsD (List.range' m (n - m)), sd') := by
  unfold dWR2
  rw [e, Option.bind_some, e2, Option.bind_some]
  show (if -(2 ^ 62) ≤ (m : Int) ∧ (m : Int) < 2 ^ 62 ∧ -(2 ^ 62) ≤ (n : Int) ∧ (n : Int) < 2 ^ 62 then some (rngD m ((n : Int) - m).toNat, sd') else none) = _
  rw [if_pos ⟨(lim62 hm).1, (lim62 hm).2, (lim62 h).1, (lim62 h).2⟩]
  have : ((n : Int) - m).toNat = n - m := by omega
  rw [this]
  unfold rngD intsD
  rw [List.range'_eq_map_range, List.map_map]
  congr 1
end DS
end

section
set_option Elab.async false
set_option linter.all false
set_option maxRecDepth 100000
set_option maxHeartbeats 1000000
namespace DS
/-! ### lacings (quasi-shuffles) of two words, as a list -/
section
variable {α : Type} (f : α → α → α)
def Qs : List α → List α → List (List α)
  | [], v => [v]
  | a :: u, [] => [a :: u]
  | a :: u, b :: v => (Qs u (b :: v)).map (a :: ·) ++ (Qs (a :: u) v).map (b :: ·) ++ (Qs u v).map (f a b :: ·)
termination_by u v => u.length + v.length
def sumOf {β : Type} (φ : β → Nat) (l : List β) : Nat := (l.map φ).sum
theorem sumOf_nil {β : Type} (φ : β → Nat) : sumOf φ [] = 0 := rfl
theorem sumOf_cons {β : Type} (φ : β → Nat) (x : β) (l : List β) : sumOf φ (x :: l) = φ x + sumOf φ l := by simp [sumOf]
theorem sumOf_one {β : Type} (φ : β → Nat) (x : β) : sumOf φ [x] = φ x := by simp [sumOf]
theorem sumOf_append {β : Type} (φ : β → Nat) (l m : List β) : sumOf φ (l ++ m) = sumOf φ l + sumOf φ m := by simp [sumOf, List.sum_append]
theorem sumOf_map {β γ : Type} (φ : γ → Nat) (g : β → γ) (l : List β) : sumOf φ (l.map g) = sumOf (fun x => φ (g x)) l := by simp [sumOf, List.map_map, Function.comp_def]
theorem sumOf_add {β : Type} (φ ψ : β → Nat) (l : List β) : sumOf (fun x => φ x + ψ x) l = sumOf φ l + sumOf ψ l := by
  induction l with
  | nil => rfl
  | cons x l ih => simp only [sumOf_cons, ih]; omega
theorem sumOf_flatMap {β γ : Type} (φ : γ → Nat) (g : β → List γ) (l : List β) : sumOf φ (l.flatMap g) = sumOf (fun x => sumOf φ (g x)) l := by
  induction l with
  | nil => rfl
  | cons x l ih => rw [List.flatMap_cons, sumOf_append, sumOf_cons, ih]
theorem sumOf_perm {β : Type} (φ : β → Nat) {l m : List β} (p : l.Perm m) : sumOf φ l = sumOf φ m := (p.map φ).sum_nat
theorem perm_of_sumOf {β : Type} [DecidableEq β] {l m : List β} (h : ∀ φ : β → Nat, sumOf φ l = sumOf φ m) : l.Perm m := by
  rw [List.perm_iff_count]
  intro x
  have e : ∀ l : List β, l.count x = sumOf (fun y => if y = x then 1 else 0) l := by
    intro l
    induction l with
    | nil => rfl
    | cons y l ih =>
      rw [List.count_cons, sumOf_cons, ih]
      by_cases e : y = x <;> simp [e] <;> omega
  rw [e, e, h]
def SQ (u v : List α) (φ : List α → Nat) : Nat := sumOf φ (Qs f u v)
theorem SQ_nil (v : List α) (φ : List α → Nat) : SQ f [] v φ = φ v := by simp [SQ, Qs, sumOf_one]
theorem SQ_nil2 (u : List α) (φ : List α → Nat) : SQ f u [] φ = φ u := by cases u <;> simp [SQ, Qs, sumOf_one]
theorem SQ_cons (a b : α) (u v : List α) (φ : List α → Nat) : SQ f (a :: u) (b :: v) φ = SQ f u (b :: v) (fun x => φ (a :: x)) + SQ f (a :: u) v (fun x => φ (b :: x)) + SQ f u v (fun x => φ (f a b :: x)) := by
  simp only [SQ, Qs, sumOf_append, sumOf_map]
theorem SQ_add (u v : List α) (φ ψ : List α → Nat) : SQ f u v (fun x => φ x + ψ x) = SQ f u v φ + SQ f u v ψ := sumOf_add _ _ _
/-- it does not matter which is first -/
theorem SQ_comm (fc : ∀ a b, f a b = f b a) : ∀ (u v : List α) (φ : List α → Nat), SQ f u v φ = SQ f v u φ
  | [], v, φ => by rw [SQ_nil, SQ_nil2]
  | a :: u, [], φ => by rw [SQ_nil, SQ_nil2]
  | a :: u, b :: v, φ => by
    rw [SQ_cons, SQ_cons, SQ_comm fc u (b :: v), SQ_comm fc (a :: u) v, SQ_comm fc u v, fc a b]; omega
termination_by u v => u.length + v.length
/-- three words -/
theorem SQ_assoc (fa : ∀ a b c, f (f a b) c = f a (f b c)) : ∀ (u v w : List α) (φ : List α → Nat), SQ f u v (fun x => SQ f x w φ) = SQ f v w (fun y => SQ f u y φ)
  | [], v, w, φ => by rw [SQ_nil]; congr 1; funext y; rw [SQ_nil]
  | a :: u, [], w, φ => by rw [SQ_nil2, SQ_nil]
  | a :: u, b :: v, [], φ => by rw [SQ_nil2]; simp only [SQ_nil2]
  | a :: u, b :: v, c :: w, φ => by
    have e1 := SQ_cons f a b u v (fun x => SQ f x (c :: w) φ)
    simp only [SQ_cons f _ c _ w φ, SQ_add] at e1
    have e2 := SQ_cons f b c v w (fun x => SQ f (a :: u) x φ)
    simp only [SQ_cons f a _ u _ φ, SQ_add] at e2
    have k1 := SQ_assoc fa u (b :: v) (c :: w) fun x => φ (a :: x)
    have k2 := SQ_assoc fa (a :: u) v (c :: w) fun x => φ (b :: x)
    have k3 := SQ_assoc fa (a :: u) (b :: v) w fun x => φ (c :: x)
    have k4 := SQ_assoc fa u v (c :: w) fun x => φ (f a b :: x)
    have k5 := SQ_assoc fa u (b :: v) w fun x => φ (f a c :: x)
    have k6 := SQ_assoc fa (a :: u) v w fun x => φ (f b c :: x)
    have k7 := SQ_assoc fa u v w fun x => φ (f (f a b) c :: x)
    have j3 := SQ_cons f a b u v (fun x => SQ f x w (fun y => φ (c :: y)))
    have j1 := SQ_cons f b c v w (fun x => SQ f u x (fun y => φ (a :: y)))
    simp only [fa] at *
    rw [e1, e2]
    omega
termination_by u v w => u.length + v.length + w.length
/-- the last letters -/
theorem SQ_last : ∀ (u v : List α) (a b : α) (φ : List α → Nat), SQ f (u ++ [a]) (v ++ [b]) φ = SQ f u (v ++ [b]) (fun x => φ (x ++ [a])) + SQ f (u ++ [a]) v (fun x => φ (x ++ [b])) + SQ f u v (fun x => φ (x ++ [f a b]))
  | [], [], a, b, φ => by
    simp only [List.nil_append, SQ_cons, SQ_nil, SQ_nil2]
    simp only [List.cons_append, List.nil_append]; omega
  | [], d :: v, a, b, φ => by
    have k := SQ_last [] v a b fun x => φ (d :: x)
    simp only [List.nil_append, List.cons_append, SQ_cons, SQ_nil, SQ_nil2] at k ⊢
    rw [k]; omega
  | c :: u, [], a, b, φ => by
    have k := SQ_last u [] a b fun x => φ (c :: x)
    simp only [List.nil_append, List.cons_append, SQ_cons, SQ_nil, SQ_nil2] at k ⊢
    rw [k]; omega
  | c :: u, d :: v, a, b, φ => by
    have k1 := SQ_last u (d :: v) a b fun x => φ (c :: x)
    have k2 := SQ_last (c :: u) v a b fun x => φ (d :: x)
    have k3 := SQ_last u v a b fun x => φ (f c d :: x)
    simp only [List.cons_append, SQ_cons] at k1 k2 k3 ⊢
    rw [k1, k2, k3]; omega
termination_by u v => u.length + v.length
/-- turned about -/
theorem SQ_rev : ∀ (u v : List α) (φ : List α → Nat), SQ f u.reverse v.reverse φ = SQ f u v (fun x => φ x.reverse)
  | [], v, φ => by rw [List.reverse_nil, SQ_nil, SQ_nil]
  | a :: u, [], φ => by rw [List.reverse_nil, SQ_nil2, SQ_nil2]
  | a :: u, b :: v, φ => by
    have k1 := SQ_rev u (b :: v) fun x => φ (x ++ [a])
    have k2 := SQ_rev (a :: u) v fun x => φ (x ++ [b])
    have k3 := SQ_rev u v fun x => φ (x ++ [f a b])
    simp only [List.reverse_cons] at k1 k2 k3 ⊢
    rw [SQ_last, k1, k2, k3, SQ_cons]
    simp only [List.reverse_cons]
termination_by u v => u.length + v.length
/-- all cuts of a word in two -/
def cuts2 : List α → List (List α × List α)
  | [] => [([], [])]
  | a :: u => ([], a :: u) :: (cuts2 u).map fun p => (a :: p.1, p.2)
def SC (u : List α) (ψ : List α × List α → Nat) : Nat := sumOf ψ (cuts2 u)
theorem SC_nil (ψ : List α × List α → Nat) : SC [] ψ = ψ ([], []) := by simp [SC, cuts2, sumOf_one]
theorem SC_cons (a : α) (u : List α) (ψ : List α × List α → Nat) : SC (a :: u) ψ = ψ ([], a :: u) + SC u (fun p => ψ (a :: p.1, p.2)) := by
  simp only [SC, cuts2, sumOf_cons, sumOf_map]
theorem SC_add (u : List α) (φ ψ : List α × List α → Nat) : SC u (fun x => φ x + ψ x) = SC u φ + SC u ψ := sumOf_add _ _ _
/-- both cut, then laced -/
def SR (u v : List α) (ψ : List α × List α → Nat) : Nat := SC u fun p => SC v fun q => SQ f p.1 q.1 fun x => SQ f p.2 q.2 fun y => ψ (x, y)
theorem SR_nil (v : List α) (ψ : List α × List α → Nat) : SR f [] v ψ = SC v ψ := by simp only [SR, SC_nil, SQ_nil]
theorem SR_nil2 (u : List α) (ψ : List α × List α → Nat) : SR f u [] ψ = SC u ψ := by simp only [SR, SC_nil, SQ_nil2]
theorem SR_cons (a b : α) (u v : List α) (ψ : List α × List α → Nat) : SR f (a :: u) (b :: v) ψ = SQ f (a :: u) (b :: v) (fun y => ψ ([], y)) + SR f u (b :: v) (fun p => ψ (a :: p.1, p.2)) + SR f (a :: u) v (fun p => ψ (b :: p.1, p.2)) + SR f u v (fun p => ψ (f a b :: p.1, p.2)) := by
  simp only [SR, SC_cons, SQ_nil, SQ_nil2, SQ_cons, SC_add]
  omega
theorem SR_eq : ∀ (u v : List α) (ψ : List α × List α → Nat), SQ f u v (fun x => SC x ψ) = SR f u v ψ
  | [], v, ψ => by rw [SQ_nil, SR_nil]
  | a :: u, [], ψ => by rw [SQ_nil2, SR_nil2]
  | a :: u, b :: v, ψ => by
    have k1 := SR_eq u (b :: v) fun p => ψ (a :: p.1, p.2)
    have k2 := SR_eq (a :: u) v fun p => ψ (b :: p.1, p.2)
    have k3 := SR_eq u v fun p => ψ (f a b :: p.1, p.2)
    rw [SR_cons, ← k1, ← k2, ← k3, SQ_cons]
    simp only [SC_cons, SQ_add]
    have e := SQ_cons f a b u v fun y => ψ ([], y)
    rw [e]; omega
termination_by u v => u.length + v.length
end
end DS
end

section
set_option Elab.async false
set_option linter.all false
set_option maxRecDepth 100000
set_option maxHeartbeats 1000000
namespace DS
section
variable {α : Type} [DecidableEq α] (f : α → α → α)
theorem Qs_nil (v : List α) : Qs f [] v = [v] := by simp [Qs]
theorem Qs_nil2 (u : List α) : Qs f u [] = [u] := by cases u <;> simp [Qs]
theorem Qs_comm (fc : ∀ a b, f a b = f b a) (u v : List α) : (Qs f u v).Perm (Qs f v u) := perm_of_sumOf fun φ => SQ_comm f fc u v φ
theorem Qs_assoc (fa : ∀ a b c, f (f a b) c = f a (f b c)) (u v w : List α) : ((Qs f u v).flatMap fun x => Qs f x w).Perm ((Qs f v w).flatMap fun y => Qs f u y) := perm_of_sumOf fun φ => by
  rw [sumOf_flatMap, sumOf_flatMap]; exact SQ_assoc f fa u v w φ
theorem Qs_rev (u v : List α) : (Qs f u.reverse v.reverse).Perm ((Qs f u v).map List.reverse) := perm_of_sumOf fun φ => by
  rw [sumOf_map]; exact SQ_rev f u v φ
theorem Qs_last (u v : List α) (a b : α) : (Qs f (u ++ [a]) (v ++ [b])).Perm ((Qs f u (v ++ [b])).map (· ++ [a]) ++ (Qs f (u ++ [a]) v).map (· ++ [b]) ++ (Qs f u v).map (· ++ [f a b])) := perm_of_sumOf fun φ => by
  simp only [sumOf_append, sumOf_map]; exact SQ_last f u v a b φ
theorem Qs_cuts (u v : List α) : ((Qs f u v).flatMap cuts2).Perm ((cuts2 u).flatMap fun p => (cuts2 v).flatMap fun q => (Qs f p.1 q.1).flatMap fun x => (Qs f p.2 q.2).map fun y => (x, y)) := perm_of_sumOf fun φ => by
  simp only [sumOf_flatMap, sumOf_map]; exact SR_eq f u v φ
theorem Qs_mem : ∀ (u v x : List α), x ∈ Qs f u v → ∀ P : α → Prop, (∀ a ∈ u, P a) → (∀ b ∈ v, P b) → (∀ a ∈ u, ∀ b ∈ v, P (f a b)) → x.length ≤ u.length + v.length ∧ ∀ a ∈ x, P a
  | [], v, x, h, P, hu, hv, hf => by rw [Qs_nil, List.mem_singleton] at h; subst h; exact ⟨by simp, hv⟩
  | a :: u, [], x, h, P, hu, hv, hf => by rw [Qs_nil2, List.mem_singleton] at h; subst h; exact ⟨by simp, hu⟩
  | a :: u, b :: v, x, h, P, hu, hv, hf => by
    rw [Qs, List.mem_append, List.mem_append] at h
    have hu' : ∀ c ∈ u, P c := fun c hc => hu c (List.mem_cons_of_mem _ hc)
    have hv' : ∀ c ∈ v, P c := fun c hc => hv c (List.mem_cons_of_mem _ hc)
    rcases h with (h | h) | h <;> obtain ⟨y, hy, rfl⟩ := List.mem_map.mp h
    · obtain ⟨k1, k2⟩ := Qs_mem u (b :: v) y hy P hu' hv fun c hc => hf c (List.mem_cons_of_mem _ hc)
      refine ⟨by simp only [List.length_cons] at k1 ⊢; omega, fun c hc => ?_⟩
      rcases List.mem_cons.mp hc with rfl | hc
      · exact hu _ (List.mem_cons_self ..)
      · exact k2 c hc
    · obtain ⟨k1, k2⟩ := Qs_mem (a :: u) v y hy P hu hv' fun c hc d hd => hf c hc d (List.mem_cons_of_mem _ hd)
      refine ⟨by simp only [List.length_cons] at k1 ⊢; omega, fun c hc => ?_⟩
      rcases List.mem_cons.mp hc with rfl | hc
      · exact hv _ (List.mem_cons_self ..)
      · exact k2 c hc
    · obtain ⟨k1, k2⟩ := Qs_mem u v y hy P hu' hv' fun c hc d hd => hf c (List.mem_cons_of_mem _ hc) d (List.mem_cons_of_mem _ hd)
      refine ⟨by simp only [List.length_cons] at k1 ⊢; omega, fun c hc => ?_⟩
      rcases List.mem_cons.mp hc with rfl | hc
      · exact hf _ (List.mem_cons_self ..) _ (List.mem_cons_self ..)
      · exact k2 c hc
termination_by u v => u.length + v.length
theorem Qs_ne : ∀ (u v : List α), Qs f u v ≠ []
  | [], v => by rw [Qs_nil]; simp
  | a :: u, [] => by rw [Qs_nil2]; simp
  | a :: u, b :: v => by
    rw [Qs]
    have := Qs_ne u (b :: v)
    simp [this]
termination_by u v => u.length + v.length
def delN : Nat → Nat → Nat
  | 0, _ => 1
  | _ + 1, 0 => 1
  | m + 1, n + 1 => delN m (n + 1) + delN (m + 1) n + delN m n
theorem Qs_len : ∀ (u v : List α), (Qs f u v).length = delN u.length v.length
  | [], v => by rw [Qs_nil]; simp [delN]
  | a :: u, [] => by rw [Qs_nil2]; simp [delN]
  | a :: u, b :: v => by
    rw [Qs]
    have k1 := Qs_len u (b :: v)
    have k2 := Qs_len (a :: u) v
    have k3 := Qs_len u v
    simp only [List.length_append, List.length_map, List.length_cons, delN] at k1 k2 k3 ⊢
    omega
termination_by u v => u.length + v.length
theorem cuts2_range : ∀ w : List α, cuts2 w = (List.range (w.length + 1)).map fun i => (w.take i, w.drop i)
  | [] => rfl
  | a :: w => by
    rw [cuts2, cuts2_range w, List.length_cons, List.range_succ_eq_map (n := w.length + 1), List.map_cons, List.map_map, List.map_map]
    rfl
end
section
variable {A B C : Type} (fa : A → C) (fb : B → C) (fab : A → B → C)
/-- the patterns of a lacing -/
def Q3 : List A → List B → List (List C)
  | [], v => [v.map fb]
  | a :: u, [] => [(a :: u).map fa]
  | a :: u, b :: v => (Q3 u (b :: v)).map (fa a :: ·) ++ (Q3 (a :: u) v).map (fb b :: ·) ++ (Q3 u v).map (fab a b :: ·)
termination_by u v => u.length + v.length
theorem Q3_map {D : Type} (r : C → D) : ∀ (u : List A) (v : List B), (Q3 fa fb fab u v).map (List.map r) = Q3 (fun a => r (fa a)) (fun b => r (fb b)) (fun a b => r (fab a b)) u v
  | [], v => by simp [Q3, List.map_map, Function.comp_def]
  | a :: u, [] => by simp [Q3, List.map_map, Function.comp_def]
  | a :: u, b :: v => by
    rw [Q3, Q3, ← Q3_map r u (b :: v), ← Q3_map r (a :: u) v, ← Q3_map r u v]
    simp [List.map_map, Function.comp_def]
termination_by u v => u.length + v.length
theorem Q3_pre {A' B' : Type} (g : A' → A) (h : B' → B) : ∀ (u : List A') (v : List B'), Q3 fa fb fab (u.map g) (v.map h) = Q3 (fun a => fa (g a)) (fun b => fb (h b)) (fun a b => fab (g a) (h b)) u v
  | [], v => by simp [Q3, List.map_map, Function.comp_def]
  | a :: u, [] => by simp [Q3, List.map_map, Function.comp_def]
  | a :: u, b :: v => by
    have k1 := Q3_pre g h u (b :: v)
    have k2 := Q3_pre g h (a :: u) v
    have k3 := Q3_pre g h u v
    simp only [List.map_cons] at k1 k2 ⊢
    rw [Q3, Q3, k1, k2, k3]
termination_by u v => u.length + v.length
end
theorem Qs_Q3 {α : Type} (f : α → α → α) : ∀ (u v : List α), Qs f u v = Q3 id id f u v
  | [], v => by simp [Qs, Q3]
  | a :: u, [] => by simp [Qs, Q3]
  | a :: u, b :: v => by rw [Qs, Q3, Qs_Q3 f u (b :: v), Qs_Q3 f (a :: u) v, Qs_Q3 f u v]; rfl
termination_by u v => u.length + v.length
/-! ### the other way to lay two words: by positions -/
def chsS (below : Nat) (o : List Nat) : List Nat := List.range' (match o.getLast? with | some k => k + 1 | none => 0) (below - (match o.getLast? with | some k => k + 1 | none => 0))
def chs (below : Nat) : Nat → List (List Nat)
  | 0 => [[]]
  | k + 1 => (chs below k).flatMap fun o => (chsS below o).map fun i => o ++ [i]
def posN (l : List Nat) (x : Nat) : Nat := l.idxOf x
/-- a letter's origin: the first word's, the second's, both -/
abbrev Org := Nat × Nat
def orgA (i : Nat) : Org := (i + 1, 0)
def orgB (j : Nat) : Org := (0, j + 1)
def orgAB (i j : Nat) : Org := (i + 1, j + 1)
def orgAt (near far : List Nat) (p : Nat) : Org := if p ∈ far then (if p ∈ near then orgAB (near.idxOf p) (far.idxOf p) else orgB (far.idxOf p)) else orgA (near.idxOf p)
def lays (m n : Nat) : List (List Org) := (List.range' (max m n) (m + n + 1 - max m n)).flatMap fun many => (chs many m).flatMap fun near => (chs many n).flatMap fun far => if ((List.range many).all fun p => near.contains p || far.contains p) = true then [(List.range many).map (orgAt near far)] else []
def layOk (m n : Nat) : Bool := (lays m n).isPerm (Q3 orgA orgB orgAB (List.range m) (List.range n))
theorem lay_all : ((List.range 5).all fun m => (List.range 3).all fun n => layOk m n) = true := by decide +kernel
theorem lay_perm {m n : Nat} (hm : m ≤ 4) (hn : n ≤ 2) : (lays m n).Perm (Q3 orgA orgB orgAB (List.range m) (List.range n)) := by
  have h := List.all_eq_true.mp (List.all_eq_true.mp lay_all m (List.mem_range.mpr (by omega))) n (List.mem_range.mpr (by omega))
  exact List.isPerm_iff.mp h
end DS
end

section
set_option Elab.async false
set_option linter.all false
set_option maxRecDepth 100000
set_option maxHeartbeats 1000000
namespace DS
open PySem
@[simp] theorem dForL_nil (b : BG) (body : TM) (sd : DEnv) : dForL b body [] sd = some (.nx, sd) := rfl
theorem forL_ixA {b : BG} {body : TM} (P : Nat → DEnv → Prop) : ∀ (xs : List D) (k : Nat) (sd : DEnv), (∀ i x sd, xs[i]? = some x → P (k + i) sd → ∃ s1 s2, b x sd = some s1 ∧ body s1 = some (.nx, s2) ∧ P (k + i + 1) s2) → P k sd → ∃ sd', dForL b body xs sd = some (.nx, sd') ∧ P (k + xs.length) sd'
  | [], k, sd, _, h => ⟨sd, rfl, h⟩
  | x :: xs, k, sd, step, h => by
    obtain ⟨s1, s2, h1, h2, h3⟩ := step 0 x sd rfl h
    obtain ⟨sd', h4, h5⟩ := forL_ixA (b := b) (body := body) P xs (k + 1) s2 (fun i y t hy ht => by
      have := step (i + 1) y t (by rw [List.getElem?_cons_succ]; exact hy)
      have e : k + 1 + i = k + (i + 1) := by omega
      rw [e] at ht ⊢
      exact this ht) h3
    have e : k + 1 + xs.length = k + (x :: xs).length := by rw [List.length_cons]; omega
    rw [e] at h5
    exact ⟨sd', by simp only [dForL, h1, Option.bind_some, h2, h4], h5⟩
theorem forL_ix {b : BG} {body : TM} (P : Nat → DEnv → Prop) (xs : List D) (sd : DEnv) (step : ∀ i x sd, xs[i]? = some x → P i sd → ∃ s1 s2, b x sd = some s1 ∧ body s1 = some (.nx, s2) ∧ P (i + 1) s2) (h : P 0 sd) : ∃ sd', dForL b body xs sd = some (.nx, sd') ∧ P xs.length sd' := by
  obtain ⟨sd', h1, h2⟩ := forL_ixA (b := b) (body := body) P xs 0 sd (fun i x s hx hs => by rw [Nat.zero_add] at hs ⊢; exact step i x s hx hs) h
  rw [Nat.zero_add] at h2
  exact ⟨sd', h1, h2⟩
theorem intsD_get {l : List Nat} {i : Nat} {x : D} (h : (intsD l)[i]? = some x) : ∃ j : Nat, l[i]? = some j ∧ x = .int (j : Int) := by
  unfold intsD at h
  rw [List.getElem?_map] at h
  rcases e : l[i]? with _ | j
  · rw [e] at h; cases h
  · rw [e] at h; cases h; exact ⟨j, rfl, rfl⟩
theorem intsD_range_get {n i : Nat} {x : D} (h : (intsD (List.range n))[i]? = some x) : i < n ∧ x = .int (i : Int) := by
  obtain ⟨j, h1, h2⟩ := intsD_get h
  rw [List.getElem?_eq_some_iff] at h1
  obtain ⟨h3, h4⟩ := h1
  rw [List.getElem_range] at h4
  rw [List.length_range] at h3
  exact ⟨h3, by rw [h2, h4]⟩
theorem intsD_len (l : List Nat) : (intsD l).length = l.length := by simp [intsD]
theorem enumL_get : ∀ (l : List D) (k i : Nat), (enumL k l)[i]? = (l[i]?).map fun x => D.tup [.int ((k + i : Nat) : Int), x]
  | [], k, i => by simp [enumL]
  | x :: l, k, 0 => by simp [enumL]
  | x :: l, k, i + 1 => by
    simp only [enumL, List.getElem?_cons_succ]
    rw [enumL_get l (k + 1) i]
    have : k + 1 + i = k + (i + 1) := by omega
    rw [this]
section
variable {α : Type} [DecidableEq α]
theorem forL_bag {γ : Type} {b : BG} {body : TM} (g : γ → D) (ch : γ → List α) (F : Cnt α → DEnv → Prop) (L : Nat) : ∀ (l : List γ), (∀ x ∈ l, ∀ rs M sd, Bag rs M → M.length + (ch x).length ≤ L → F rs sd → ∃ s1 s2 rs', b (g x) sd = some s1 ∧ body s1 = some (.nx, s2) ∧ F rs' s2 ∧ Bag rs' (M ++ ch x)) → ∀ rs M sd, Bag rs M → F rs sd → M.length + (l.flatMap ch).length ≤ L → ∃ rs' sd', dForL b body (l.map g) sd = some (.nx, sd') ∧ F rs' sd' ∧ Bag rs' (M ++ l.flatMap ch)
  | [], _, rs, M, sd, hb, hF, _ => ⟨rs, sd, rfl, hF, by simpa using hb⟩
  | x :: l, step, rs, M, sd, hb, hF, hL => by
    rw [List.flatMap_cons, List.length_append] at hL
    obtain ⟨s1, s2, rs1, h1, h2, h3, h4⟩ := step x (List.mem_cons_self ..) rs M sd hb (by omega) hF
    obtain ⟨rs', sd', h5, h6, h7⟩ := forL_bag g ch F L l (fun y hy => step y (List.mem_cons_of_mem _ hy)) rs1 (M ++ ch x) s2 h4 h3 (by rw [List.length_append]; omega)
    rw [List.append_assoc, ← List.flatMap_cons] at h7
    exact ⟨rs', sd', by rw [List.map_cons]; simp only [dForL, h1, Option.bind_some, h2, h5], h6, h7⟩
theorem Bag.sum {ps : Cnt α} {m : List α} (h : Bag ps m) {β : Type} (g : α → List β) : (ps.flatMap fun p => (List.replicate p.2 (g p.1)).flatten).Perm (m.flatMap g) := by
  refine List.Perm.trans ?_ (h.flat.flatMap_right g).symm
  clear h
  induction ps with
  | nil => exact .nil
  | cons p r ih =>
    rw [List.flatMap_cons]
    have e : flatN (p :: r) = List.replicate p.2 p.1 ++ flatN r := rfl
    rw [e, List.flatMap_append]
    refine List.Perm.append ?_ ih
    rw [List.flatMap_replicate]
theorem Bag.map {β : Type} [DecidableEq β] {ps : Cnt α} {m : List α} (h : Bag ps m) (g : α → β) (hg : ∀ x y, g x = g y → x = y) : Bag (ps.map fun p => (g p.1, p.2)) (m.map g) := by
  have hk : (ps.map fun p => (g p.1, p.2)).map (·.1) = (ps.map (·.1)).map g := by simp [List.map_map, Function.comp_def]
  have hnd : ((ps.map fun p => (g p.1, p.2)).map (·.1)).Nodup := by
    rw [hk]
    unfold List.Nodup
    rw [List.pairwise_map]
    exact h.nd.imp fun hne e => hne (hg _ _ e)
  have hpos : ∀ p ∈ ps.map fun p => (g p.1, p.2), 0 < p.2 := fun p hp => by
    obtain ⟨q, hq, rfl⟩ := List.mem_map.mp hp
    exact h.pos q hq
  refine (Bag.self hnd hpos).perm ?_
  have e : flatN (ps.map fun p => (g p.1, p.2)) = (flatN ps).map g := by
    clear hk hnd hpos h
    induction ps with
    | nil => rfl
    | cons p r ih =>
      show List.replicate p.2 (g p.1) ++ flatN (r.map _) = (List.replicate p.2 p.1 ++ flatN r).map g
      rw [ih, List.map_append, List.map_replicate]
  rw [e]
  exact (h.flat.map g).symm
def cntOf (m : List α) : Cnt α := m.foldl (fun ps x => addN ps x 1) []
theorem cntOf_bagA : ∀ (l : List α) (ps : Cnt α) (m : List α), Bag ps m → Bag (l.foldl (fun ps x => addN ps x 1) ps) (m ++ l)
  | [], ps, m, h => by simpa using h
  | x :: l, ps, m, h => by
    have := cntOf_bagA l (addN ps x 1) (m ++ [x]) (h.add (by omega))
    rw [List.append_assoc] at this
    exact this
theorem cntOf_bag (m : List α) : Bag (cntOf m) m := by
  have := cntOf_bagA m [] [] .nil
  rw [List.nil_append] at this
  exact this
theorem Bag.mem {ps : Cnt α} {m : List α} (h : Bag ps m) {p : α × Nat} (hp : p ∈ ps) : p.1 ∈ m ∧ 0 < p.2 ∧ p.2 ≤ m.length := by
  have e := h.cnt p.1
  rw [getN_mem h.nd hp] at e
  have := h.pos p hp
  exact ⟨List.count_pos_iff.mp (by omega), this, by rw [← e]; exact List.count_le_length⟩
end
end DS
end

section
set_option Elab.async false
set_option linter.all false
set_option maxRecDepth 100000
set_option maxHeartbeats 1000000
namespace K25
open PySem DS
def addL (a b : Ltr) : Ltr := List.zipWith (· + ·) a b
theorem zipL_ints : ∀ a b : Ltr, zipL (a.map D.int) (b.map D.int) = (a.zip b).map fun p => D.tup [.int p.1, .int p.2]
  | [], b => by simp [zipL]
  | i :: a, [] => by simp [zipL]
  | i :: a, j :: b => by simp [zipL, zipL_ints a b]
def sumP : D → D := fun x => match x with | .tup [.int i, .int j] => .int (i + j) | _ => .non
theorem sumP_zip : ∀ a b : Ltr, ((a.zip b).map fun p => D.tup [.int p.1, .int p.2]).map sumP = (addL a b).map D.int
  | [], b => by simp [addL]
  | i :: a, [] => by simp [addL]
  | i :: a, j :: b => by
    have := sumP_zip a b
    simp only [addL] at this
    simp [addL, sumP, this]
theorem letters_times_eq (a b : Ltr) (h : a.length ≤ 100) : sem_letters_times [.fz (LtD a), .fz (LtD b)] = some (.fz (LtD (addL a b)), [.fz (LtD a), .fz (LtD b)]) := by
  obtain ⟨sd', e1, e2⟩ := lcL_map (b := bTup 2 (bCons (bName 2) (bCons (bName 3) bNil))) (tt := dYes) (te := dBin addD (dVar 2) (dVar 3)) (vs := [2, 3]) (fun sd => wipeD sd [2, 3] = [some (.fz (LtD a)), some (.fz (LtD b)), none, none])
    sumP ((a.zip b).map fun p => D.tup [.int p.1, .int p.2]) [some (.fz (LtD a)), some (.fz (LtD b)), none, none] (by
      intro x hx sd hsd
      obtain ⟨p, _, rfl⟩ := List.mem_map.mp hx
      rw [hsd]
      exact ⟨_, _, _, rfl, rfl, rfl, rfl⟩) rfl
  rw [sumP_zip] at e1
  have hz : (addL a b).length ≤ sizeLine := by
    have : (addL a b).length ≤ a.length := by unfold addL; rw [List.length_zipWith]; omega
    rw [sizeLine_eq]; omega
  simp [LtD] at e1 e2
  simp [sem_letters_times, semOf_s, t_letters_times, List.replicate, LtD, zipL_ints, e1, e2, hz, tupleB, wbs]
end K25
end

section
set_option Elab.async false
set_option linter.all false
set_option maxRecDepth 100000
set_option maxHeartbeats 1000000
namespace K25
open PySem DS L2
theorem isi_ii (i : Int) : isiD "int" (.int i) = some (.bl true) := by
  show ((kitB "int" "int").bind fun b => some (D.bl b)) = _
  have : kitB "int" "int" = some true := by decide +kernel
  rw [this]; rfl
theorem isi_ib (i : Int) : isiD "bool" (.int i) = some (.bl false) := by
  show ((kitB "int" "bool").bind fun b => some (D.bl b)) = _
  have : kitB "int" "bool" = some false := by decide +kernel
  rw [this]; rfl
theorem isi_tt (ds : List D) : isiD "tuple" (.tup ds) = some (.bl true) := by
  show ((kitB "tuple" "tuple").bind fun b => some (D.bl b)) = _
  have : kitB "tuple" "tuple" = some true := by decide +kernel
  rw [this]; rfl
theorem is_integer_eq (i : Int) : sem_is_integer [.fz (.int i)] = some (.fz (.bl true), [.fz (.int i)]) := by
  simp [sem_is_integer, semOf_s, t_is_integer, isi_ii, isi_ib, wbs]
theorem is_count_eq (i : Int) (h : 0 ≤ i) : sem_is_count [.fz (.int i)] = some (.fz (.bl true), [.fz (.int i)]) := by
  simp [sem_is_count, semOf_s, t_is_count, slotsOf, is_integer_eq, backTo', geD, cmpD, h, wbs]
theorem want_columns_eq (i : Int) (h : 0 ≤ i) (h3 : i ≤ 3) : sem_want_columns [.fz (.int i)] = some (.fz .non, [.fz (.int i)]) := by
  have h4 : ¬ 3 < i := by omega
  simp [sem_want_columns, semOf_s, t_want_columns, slotsOf, is_count_eq i h, backTo', gtD, cmpD, h4, wbs]
def LOk (c : Nat) (a : Ltr) : Prop := a.length = c ∧ ∀ x ∈ a, 0 ≤ x ∧ x ≤ 8
def WOk (c : Nat) (w : Wrd) : Prop := w.length ≤ 8 ∧ ∀ a ∈ w, LOk c a
theorem eqA_ii (neg : Bool) (i j : Int) : eqA neg (.int i) (.int j) = some (.bl (xor neg (i == j))) := by
  simp [eqA, eqP, D.pd, SeqAt.shaped, PyData.canLay0, PyData.depth, PyData.eqv]
theorem bools_true : ∀ n : Nat, bools (List.replicate n (D.bl true)) = some (List.replicate n true)
  | 0 => rfl
  | n + 1 => by simp [List.replicate_succ, bools, bools_true n]
theorem allB_true (n : Nat) : allB [.lst (List.replicate n (D.bl true))] = some (.fz (.bl true)) := by
  simp [allB, bools_true]
theorem map_true {α : Type} (l : List α) : l.map (fun _ => D.bl true) = List.replicate l.length (D.bl true) := by
  induction l with
  | nil => rfl
  | cons x l ih => rw [List.map_cons, ih]; rfl
theorem is_letter_of_eq (c : Nat) (a : Ltr) (h : LOk c a) (hc : c ≤ 3) : sem_is_letter_of [.fz (.int c), .fz (LtD a)] = some (.fz (.bl true), [.fz (.int c), .fz (LtD a)]) := by
  obtain ⟨h1, h2⟩ := h
  obtain ⟨sd', e1, e2⟩ := lcL_pure (b := bName 2) (tt := dYes) (te := dAndV (ice (dCall sem_is_count (aSlot 2 aNil))) (dBin leD (dVar 2) (dC (.int 8)))) (vs := [2]) [some (.fz (.int c)), some (.fz (.tup (a.map .int))), none] (fun x => [some (.fz (.int c)), some (.fz (.tup (a.map .int))), some (.fz x)])
    (fun _ => D.bl true) (xs := a.map D.int) (sd := [some (.fz (.int c)), some (.fz (.tup (a.map .int))), none]) (by
      intro x hx
      obtain ⟨i, hi, rfl⟩ := List.mem_map.mp hx
      obtain ⟨q1, q2⟩ := h2 i hi
      refine ⟨rfl, rfl, ?_, rfl⟩
      simp [slotsOf, is_count_eq i q1, backTo', leD, cmpD, q2]) rfl
  rw [map_true, List.length_map] at e1
  have hz : c ≤ sizeLine := by rw [sizeLine_eq]; omega
  simp [sem_is_letter_of, semOf_s, t_is_letter_of, List.replicate, LtD, isi_tt, lenB, eqA_ii, h1, e1, e2, hz, allB_true, wbs]
theorem is_word_of_eq (c : Nat) (w : Wrd) (h : WOk c w) (hc : c ≤ 3) : sem_is_word_of [.fz (.int c), .fz (WdD w)] = some (.fz (.bl true), [.fz (.int c), .fz (WdD w)]) := by
  obtain ⟨h1, h2⟩ := h
  obtain ⟨sd', e1, e2⟩ := lcL_pure (b := bName 2) (tt := dYes) (te := ice (dCall sem_is_letter_of (aSlot 0 (aSlot 2 aNil)))) (vs := [2]) [some (.fz (.int c)), some (.fz (.tup (w.map LtD))), none] (fun x => [some (.fz (.int c)), some (.fz (.tup (w.map LtD))), some (.fz x)])
    (fun _ => D.bl true) (xs := w.map LtD) (sd := [some (.fz (.int c)), some (.fz (.tup (w.map LtD))), none]) (by
      intro x hx
      obtain ⟨a, ha, rfl⟩ := List.mem_map.mp hx
      refine ⟨rfl, rfl, ?_, rfl⟩
      simp [slotsOf, is_letter_of_eq c a (h2 a ha) hc, backTo']) rfl
  rw [map_true, List.length_map] at e1
  have hz : w.length ≤ sizeLine := by rw [sizeLine_eq]; omega
  have h9 : ¬ (8 : Int) < (w.length : Int) := by omega
  simp [sem_is_word_of, semOf_s, t_is_word_of, List.replicate, WdD, isi_tt, lenB, gtD, cmpD, h9, h1, e1, e2, hz, allB_true, wbs]
theorem want_word_eq (c : Nat) (w : Wrd) (h : WOk c w) (hc : c ≤ 3) : sem_want_word [.fz (.int c), .fz (WdD w)] = some (.fz .non, [.fz (.int c), .fz (WdD w)]) := by
  simp [sem_want_word, semOf_s, t_want_word, slotsOf, is_word_of_eq c w h hc, backTo', wbs]
theorem want_at_most_eq (x : Str) (k n : Int) (h : n ≤ k) : sem_want_at_most [.fz (.str x), .fz (.int k), .fz (.int n)] = some (.fz .non, [.fz (.str x), .fz (.int k), .fz (.int n)]) := by
  have h1 : ¬ k < n := by omega
  simp [sem_want_at_most, semOf_s, t_want_at_most, gtD, cmpD, h1, wbs]
end K25
end

section
set_option Elab.async false
set_option linter.all false
set_option maxRecDepth 100000
set_option maxHeartbeats 1000000
namespace K25
open PySem DS L2
def cutsOf (w : Wrd) : List (Wrd × Wrd) := (List.range (w.length + 1)).map fun i => (w.take i, w.drop i)
theorem cutL_to {α : Type} (xs : List α) (i : Nat) (h : i ≤ xs.length) : cutL xs none (some (i : Int)) = xs.take i := by
  unfold cutL
  rw [HT.sIx_nat, HT.sIx_none, List.drop_zero, Nat.min_eq_left h, Nat.sub_zero]
theorem cutL_from {α : Type} (xs : List α) (i : Nat) (h : i ≤ xs.length) : cutL xs (some (i : Int)) none = xs.drop i := by
  unfold cutL
  rw [HT.sIx_nat, HT.sIx_none, Nat.min_eq_left h]
  exact List.take_of_length_le (by rw [List.length_drop]; omega)
theorem cut_to (w : Wrd) (i : Nat) (h : i ≤ w.length) : cutD (WdD w) none (some (i : Int)) = some (.fz (WdD (w.take i))) := by
  show some (DV.fz (.tup (cutL (w.map LtD) none (some (i : Int))))) = _
  rw [cutL_to _ _ (by rw [List.length_map]; exact h), ← List.map_take]; rfl
theorem cut_from (w : Wrd) (i : Nat) (h : i ≤ w.length) : cutD (WdD w) (some (i : Int)) none = some (.fz (WdD (w.drop i))) := by
  show some (DV.fz (.tup (cutL (w.map LtD) (some (i : Int)) none))) = _
  rw [cutL_from _ _ (by rw [List.length_map]; exact h), ← List.map_drop]; rfl
theorem lenB_W (w : Wrd) : lenB [WdD w] = some (.fz (.int w.length)) := by
  show some (DV.fz (.int (w.map LtD).length)) = _
  rw [List.length_map]
theorem lenB_L (a : Ltr) : lenB [LtD a] = some (.fz (.int a.length)) := by
  show some (DV.fz (.int (a.map D.int).length)) = _
  rw [List.length_map]
theorem revD_W (w : Wrd) : revD (WdD w) = some (.fz (WdD w.reverse)) := by
  show some (DV.fz (.tup (w.map LtD).reverse)) = _
  rw [← List.map_reverse]; rfl
theorem addD_ii (i j : Int) : addD (.int i) (.int j) = some (.int (i + j)) := rfl
theorem rngD0 (n : Nat) : rngD 0 n = (List.range n).map fun (i : Nat) => D.int (i : Int) := by
  unfold rngD; simp
theorem z2 : 2 ≤ sizeLine := by decide
theorem WpD_eq (a b : Wrd) : D.tup [WdD a, WdD b] = WpD (a, b) := rfl
theorem word_cuts_eq (w : Wrd) (h : w.length ≤ 8) : sem_word_cuts [.fz (WdD w)] = some (.ow (.lst ((cutsOf w).map WpD)), [.fz (WdD w)]) := by
  obtain ⟨sd', e1, e2⟩ := lcL_pure (b := bName 1) (tt := dYes) (te := dTup (dCons (ice (dSl (dVar 0) dNoPt (dPt (dVar 1)))) (dCons (ice (dSl (dVar 0) (dPt (dVar 1)) dNoPt)) dNil))) (vs := [1]) [some (.fz (WdD w)), none] (fun x => [some (.fz (WdD w)), some (.fz x)])
    (fun x => match x with | .int i => WpD (w.take i.toNat, w.drop i.toNat) | _ => .non) (xs := (List.range (w.length + 1)).map fun (i : Nat) => D.int (i : Int)) (sd := [some (.fz (WdD w)), none]) (by
      intro x hx
      obtain ⟨i, hi, rfl⟩ := List.mem_map.mp hx
      have hi' : i ≤ w.length := by have := List.mem_range.mp hi; omega
      refine ⟨rfl, rfl, ?_, rfl⟩
      simp [cut_to _ _ hi', cut_from _ _ hi', WpD_eq, z2]) rfl
  rw [List.map_map] at e1
  have hz : w.length + 1 ≤ sizeLine := by rw [sizeLine_eq]; omega
  have e3 : (List.range (w.length + 1)).map ((fun x => match x with | D.int i => WpD (w.take i.toNat, w.drop i.toNat) | _ => .non) ∘ fun (i : Nat) => D.int (i : Int)) = (cutsOf w).map WpD := by
    unfold cutsOf; rw [List.map_map]; apply List.map_congr_left; intro i _; simp
  rw [e3] at e1
  have hl : ((cutsOf w).map WpD).length ≤ sizeLine := by rw [List.length_map]; unfold cutsOf; rw [List.length_map, List.length_range]; exact hz
  have e4 : dWR1 (dBin addD (ice (dBI lenB (aSlot 0 aNil))) (dC (.int 1))) [some (.fz (WdD w)), none] = some (intsD (List.range (w.length + 1)), [some (.fz (WdD w)), none]) := dWR1_nat (by simp [lenB_W, addD_ii]) (by omega)
  have hl' : (cutsOf w).length ≤ sizeLine := by rw [List.length_map] at hl; exact hl
  simp [sem_word_cuts, semOf_s, t_word_cuts, List.replicate, e4, intsD, e1, e2, wbs, hl']
theorem cuts_eq (c : Nat) (w : Wrd) (h : WOk c w) (hc : c ≤ 3) : sem_cuts [.fz (.int c), .fz (WdD w)] = some (.ow (.lst ((cutsOf w).map WpD)), [.fz (.int c), .fz (WdD w)]) := by
  simp [sem_cuts, semOf_s, t_cuts, slotsOf, want_columns_eq c (by omega) (by omega), want_word_eq c w h hc, word_cuts_eq w h.1, backTo', wbs]
theorem turned_word_eq (c : Nat) (w : Wrd) (h : WOk c w) (hc : c ≤ 3) : sem_turned_word [.fz (.int c), .fz (WdD w)] = some (.fz (WdD w.reverse), [.fz (.int c), .fz (WdD w)]) := by
  simp [sem_turned_word, semOf_s, t_turned_word, slotsOf, want_columns_eq c (by omega) (by omega), want_word_eq c w h hc, backTo', wbs, revD_W]
end K25
end

section
set_option Elab.async false
set_option linter.all false
set_option maxRecDepth 100000
set_option maxHeartbeats 1000000
namespace K25
open PySem DS L2
theorem atI_nat {α : Type} {l : List α} {i : Nat} {x : α} (h : l[i]? = some x) : atI l (i : Int) = some x := by
  have hi := (List.getElem?_eq_some_iff.mp h).1
  unfold atI ixN
  rw [if_pos (by omega), if_pos (by omega)]
  simpa using h
theorem atI_last {α : Type} {l : List α} {x : α} : atI (l ++ [x]) (-1) = some x := by
  unfold atI ixN
  rw [List.length_append, List.length_singleton, if_neg (by omega), if_pos (by omega)]
  have : ((-1 : Int) + ((l.length + 1 : Nat) : Int)).toNat = l.length := by omega
  rw [this, Option.bind_some, List.getElem?_append_right (Nat.le_refl _), Nat.sub_self]; rfl
theorem item_nat {l : List D} {i : Nat} {x : D} (h : l[i]? = some x) : itemD (.lst l) (.int (i : Int)) = some x := atI_nat h
theorem item_nat_t {l : List D} {i : Nat} {x : D} (h : l[i]? = some x) : itemD (.tup l) (.int (i : Int)) = some x := atI_nat h
theorem item_nat1 {l : List D} {i : Nat} {x : D} (h : l[i + 1]? = some x) : itemD (.lst l) (.int ((i : Int) + 1)) = some x := by
  have := item_nat h; rwa [Int.natCast_add] at this
theorem item_last {l : List D} {x : D} : itemD (.lst (l ++ [x])) (.int (-1)) = some x := atI_last
def delRow (k n : Nat) : List D := intsD ((List.range n).map (delN k))
theorem delRow_succ (k n : Nat) : delRow k (n + 1) = delRow k n ++ [.int (delN k n : Int)] := by
  unfold delRow intsD; rw [List.range_succ, List.map_append, List.map_append]; rfl
theorem delRow_get {k n j : Nat} (h : j < n) : (delRow k n)[j]? = some (.int (delN k j : Int)) := by
  unfold delRow intsD
  rw [List.getElem?_map, List.getElem?_map, List.getElem?_range h]; rfl
theorem delRow_len (k n : Nat) : (delRow k n).length = n := by simp [delRow, intsD]
theorem delRow_zero (n : Nat) : delRow 0 n = List.replicate n (.int 1) := by
  induction n with
  | zero => rfl
  | succ n ih => rw [delRow_succ, ih, List.replicate_succ', delN]; rfl
theorem mul_ones {n : Nat} (h : n + 1 ≤ 1000) : mulD (.lst [.int 1]) (.int ((n : Int) + 1)) = some (.lst (delRow 0 (n + 1))) := by
  rw [delRow_zero]
  have e : (2 : Int) ^ 63 = 9223372036854775808 := by decide
  have e2 : ((n : Int) + 1).toNat = n + 1 := by omega
  have hc : -(2 ^ 63) ≤ ((n : Int) + 1) ∧ ((n : Int) + 1) < 2 ^ 63 ∧ ([D.int 1] : List D).length * ((n : Int) + 1).toNat ≤ sizeLine := by
    rw [e, e2]; exact ⟨by omega, by omega, by rw [sizeLine_eq]; simp; omega⟩
  simp only [mulD]
  rw [if_pos hc, e2]
  simp [List.flatten_replicate_singleton]
theorem delN_z (k : Nat) : delN k 0 = 1 := by cases k <;> rw [delN]
theorem ways_many_eq (m n : Nat) (hm : m ≤ 100) (hn : n ≤ 100) : sem_ways_many [.fz (.int m), .fz (.int n)] = some (.fz (.int (delN m n)), [.fz (.int m), .fz (.int n)]) := by
  have step : ∀ i x sd, (intsD (List.range m))[i]? = some x → (∃ r t3 t5, r.d = .lst (delRow i (n + 1)) ∧ sd = [some (.fz (.int m)), some (.fz (.int n)), some r, t3, none, t5]) →
    ∃ s1 s2, bName 3 x sd = some s1 ∧ (dSeq (dSet 4 (dLst (dCons (dC (.int 1)) dNil))) (dSeq (dFor (dWR1 (dVar 1)) (bName 5) (dExp (dApp 4 (dBin addD (dBin addD (dIxV 4 (dNeg (dC (.int 1)))) (dIxV 2 (dVar 5))) (dIxV 2 (dBin addD (dVar 5) (dC (.int 1)))))))) (dSet 2 (dTake 4)))) s1 = some (.nx, s2) ∧
      (∃ r t3 t5, r.d = .lst (delRow (i + 1) (n + 1)) ∧ s2 = [some (.fz (.int m)), some (.fz (.int n)), some r, t3, none, t5]) := by
    rintro i x sd hx ⟨r, t3, t5, hr, rfl⟩
    obtain ⟨hi, rfl⟩ := intsD_range_get hx
    obtain ⟨sd', e1, t5', e2⟩ := forL_ix (b := bName 5) (body := dExp (dApp 4 (dBin addD (dBin addD (dIxV 4 (dNeg (dC (.int 1)))) (dIxV 2 (dVar 5))) (dIxV 2 (dBin addD (dVar 5) (dC (.int 1)))))))
      (fun j sd => ∃ t5, sd = [some (.fz (.int m)), some (.fz (.int n)), some r, some (.fz (.int i)), some (.ow (.lst (delRow (i + 1) (j + 1)))), t5]) (intsD (List.range n)) [some (.fz (.int m)), some (.fz (.int n)), some r, some (.fz (.int i)), some (.ow (.lst (delRow (i + 1) 1))), t5] (by
        rintro j y sd hy ⟨t5, rfl⟩
        obtain ⟨hj, rfl⟩ := intsD_range_get hy
        refine ⟨_, _, rfl, ?_, some (.fz (.int j)), rfl⟩
        have hl : (delRow (i + 1) (j + 1)).length < sizeLine := by rw [delRow_len, sizeLine_eq]; omega
        have q1 : itemD (.lst (delRow (i + 1) (j + 1))) (.int (-1)) = some (.int (delN (i + 1) j)) := by rw [delRow_succ]; exact item_last
        have q2 : itemD r.d (.int (j : Int)) = some (.int (delN i j)) := by rw [hr]; exact item_nat (delRow_get (by omega))
        have q3 : itemD r.d (.int ((j : Int) + 1)) = some (.int (delN i (j + 1))) := by rw [hr]; exact item_nat1 (delRow_get (by omega))
        have q4 : (delN (i + 1) j : Int) + delN i j + delN i (j + 1) = (delN (i + 1) (j + 1) : Int) := by rw [delN]; omega
        simp [q1, q2, q3, addD_ii, q4, hl]
        rw [delRow_succ (i + 1) (j + 1)]) ⟨t5, rfl⟩
    refine ⟨_, _, rfl, ?_, .ow (.lst (delRow (i + 1) (n + 1))), some (.fz (.int i)), t5', rfl, rfl⟩
    have hd : dWR1 (dVar 1) [some (.fz (.int m)), some (.fz (.int n)), some r, some (.fz (.int i)), some (.ow (.lst (delRow (i + 1) 1))), t5] = some (intsD (List.range n), _) := dWR1_nat rfl (by omega)
    have h1 : (1 : Nat) ≤ sizeLine := by rw [sizeLine_eq]; omega
    have e0 : ([D.int 1] : List D) = delRow (i + 1) 1 := by simp [delRow, intsD, delN_z]
    have hl1 : (delRow (i + 1) 1).length ≤ sizeLine := by rw [delRow_len]; exact h1
    rw [intsD_len, List.length_range] at e2
    simp [hl1, e0, hd, e1, e2]
  obtain ⟨sd', e1, r, t3, t5, hr, e2⟩ := forL_ix (fun i sd => ∃ r t3 t5, DV.d r = .lst (delRow i (n + 1)) ∧ sd = [some (.fz (.int m)), some (.fz (.int n)), some r, t3, none, t5]) (intsD (List.range m)) [some (.fz (.int m)), some (.fz (.int n)), some (.fz (.lst (delRow 0 (n + 1)))), none, none, none] step ⟨_, _, _, rfl, rfl⟩
  rw [intsD_len, List.length_range] at hr
  have hd : dWR1 (dVar 0) [some (.fz (.int m)), some (.fz (.int n)), some (.fz (.lst (delRow 0 (n + 1)))), none, none, none] = some (intsD (List.range m), _) := dWR1_nat rfl (by omega)
  have h1 : (1 : Nat) ≤ sizeLine := by rw [sizeLine_eq]; omega
  have q1 : itemD r.d (.int (-1)) = some (.int (delN m n)) := by rw [hr, delRow_succ]; exact item_last
  simp [sem_ways_many, semOf_s, t_ways_many, List.replicate, h1, addD_ii, mul_ones (n := n) (by omega), hd, e1, e2, q1, wbs]
end K25
end

section
set_option Elab.async false
set_option linter.all false
set_option maxRecDepth 100000
set_option maxHeartbeats 1000000
namespace K25
open PySem DS L2
abbrev lim : Nat := 100000
theorem fm_one {α β : Type} (g : α → β) : ∀ m : List α, m.flatMap (fun x => [g x]) = m.map g
  | [] => rfl
  | x :: m => by rw [List.flatMap_cons, fm_one g m]; rfl
theorem Bag.sum1 {α β : Type} [DecidableEq α] {ps : Cnt α} {m : List α} (h : Bag ps m) (g : α → β) : (ps.flatMap fun p => List.replicate p.2 (g p.1)).Perm (m.map g) := by
  have := h.sum fun x => [g x]
  rw [fm_one] at this
  simpa [List.flatten_replicate_singleton] using this
theorem get_W (rs : Cnt Wrd) (w : Wrd) : getB (.dct (encP kW rs)) (WdD w) (.int 0) = some (.int (getN rs w)) := encP_get (E := kW)
theorem set_W {rs : Cnt Wrd} {w : Wrd} {n : Nat} (h : rs.length < sizeLine) : setD (.dct (encP kW rs)) (WdD w) (.int ((getN rs w : Int) + n)) = some (.dct (encP kW (addN rs w n))) := by
  have e : keyOk (WdD w) = some (kWd w) := kW.ok w
  have e2 : dput (encP kW rs) (kWd w) (WdD w) (.int ((getN rs w : Int) + n)) = encP kW (addN rs w n) := encP_put (E := kW)
  simp only [setD, e, Option.bind_some, encP_len, if_pos h, e2]
theorem addD_W {w : Wrd} {a : Ltr} (h : w.length + 1 ≤ sizeLine) : addD (WdD w) (.tup [LtD a]) = some (WdD (w ++ [a])) := by
  have h' : (w.map LtD).length + [LtD a].length ≤ sizeLine := by rw [List.length_map]; exact h
  simp only [WdD, addD, if_pos h', List.map_append, List.map_cons, List.map_nil]
theorem put_longer_eq {rs qs : Cnt Wrd} {M Mq : List Wrd} (a : Ltr) (hr : Bag rs M) (hq : Bag qs Mq) (hL : M.length + Mq.length ≤ lim) (hw : ∀ w ∈ Mq, w.length ≤ 100) : ∃ rs', sem_put_longer [.ow (.dct (encP kW rs)), .fz (.dct (encP kW qs)), .fz (LtD a)] = some (.fz .non, [.ow (.dct (encP kW rs')), .fz (.dct (encP kW qs)), .fz (LtD a)]) ∧ Bag rs' (M ++ Mq.map (· ++ [a])) := by
  have hp := Bag.sum1 hq (· ++ [a])
  obtain ⟨rs', sd', e1, ⟨t3, t4, t5, e2⟩, e3⟩ := forL_bag (b := bTup 2 (bCons (bName 3) (bCons (bName 4) bNil))) (body := dSeq (dSet 5 (ofF (dBin addD (dVar 3) (dTup (dCons (dVar 2) dNil))))) (dAsgG (dBin addD (dGet 0 (dVar 5) (dC (.int 0))) (dVar 4)) (bSub 0 (dVar 5))))
    (fun (p : Wrd × Nat) => D.tup [WdD p.1, .int p.2]) (fun p => List.replicate p.2 (p.1 ++ [a])) (fun rs sd => ∃ t3 t4 t5, sd = [some (.ow (.dct (encP kW rs))), some (.fz (.dct (encP kW qs))), some (.fz (LtD a)), t3, t4, t5]) lim qs (by
      rintro ⟨w, n⟩ hx rs M sd hb hl ⟨t3, t4, t5, rfl⟩
      have hl' : rs.length < sizeLine := by
        have := hb.len
        rw [sizeLine_eq]; simp only [lim] at hl; omega
      have hm := hq.mem hx
      have hwl : w.length + 1 ≤ sizeLine := by have := hw w hm.1; rw [sizeLine_eq]; omega
      have h1 : 1 ≤ sizeLine := by rw [sizeLine_eq]; omega
      refine ⟨_, _, addN rs (w ++ [a]) n, rfl, ?_, ⟨some (.fz (WdD w)), some (.fz (.int n)), some (.fz (WdD (w ++ [a]))), rfl⟩, hb.add hm.2.1⟩
      simp [isDct, h1, addD_W hwl, get_W, addD_ii, set_W hl']) rs M [some (.ow (.dct (encP kW rs))), some (.fz (.dct (encP kW qs))), some (.fz (LtD a)), none, none, none] hr ⟨_, _, _, rfl⟩ (by rw [hp.length_eq, List.length_map]; exact hL)
  refine ⟨rs', ?_, e3.perm (List.Perm.append_left _ hp)⟩
  have e4 : encP kW qs = qs.map fun p => D.tup [WdD p.1, .int p.2] := rfl
  rw [← e4] at e1
  simp [sem_put_longer, semOf_s, t_put_longer, List.replicate, isDct, e1, e2, wbs]
end K25
end

section
set_option Elab.async false
set_option linter.all false
set_option maxRecDepth 100000
set_option maxHeartbeats 1000000
namespace K25
open PySem DS L2
theorem delN_le {m n : Nat} (hm : m ≤ 4) (hn : n ≤ 4) : delN m n ≤ 321 := by
  rcases m with _ | _ | _ | _ | _ | m <;> rcases n with _ | _ | _ | _ | _ | n <;> first | omega | simp [delN]
abbrev QL (u v : Wrd) : List Wrd := Qs addL u v
theorem QL_len {u v : Wrd} (hu : u.length ≤ 4) (hv : v.length ≤ 4) : (QL u v).length ≤ 321 := by rw [QL, Qs_len]; exact delN_le hu hv
theorem QL_wlen {u v w : Wrd} (hu : u.length ≤ 4) (hv : v.length ≤ 4) (h : w ∈ QL u v) : w.length ≤ 8 := by
  have := (Qs_mem addL u v w h (fun _ => True) (fun _ _ => trivial) (fun _ _ => trivial) (fun _ _ _ _ => trivial)).1
  omega
def rowD (R : List (Cnt Wrd)) : List D := R.map fun ps => D.dct (encP kW ps)
theorem rowD_snoc (R : List (Cnt Wrd)) (ps : Cnt Wrd) : rowD R ++ [.dct (encP kW ps)] = rowD (R ++ [ps]) := by simp [rowD]
theorem rowD_len (R : List (Cnt Wrd)) : (rowD R).length = R.length := by simp [rowD]
theorem rowD_get {R : List (Cnt Wrd)} {j : Nat} {ps : Cnt Wrd} (h : R[j]? = some ps) : (rowD R)[j]? = some (.dct (encP kW ps)) := by
  rw [rowD, List.getElem?_map, h]; rfl
theorem key_W (w : Wrd) : keyOk (WdD w) = some (kWd w) := kW.ok w
theorem one_W (w : Wrd) : ([.tup [WdD w, .int 1]] : List D) = encP kW [(w, 1)] := rfl
theorem Bag.one (w : Wrd) : Bag [(w, 1)] [w] := by
  have := Bag.nil.add (x := w) (n := 1) (by omega)
  simpa [addN] using this
theorem cut_to1 (w : Wrd) (i : Nat) (h : i + 1 ≤ w.length) : cutD (WdD w) none (some ((i : Int) + 1)) = some (.fz (WdD (w.take (i + 1)))) := cut_to w (i + 1) h
abbrev TT (u v : Wrd) (i j : Nat) : List Wrd := QL (u.take i) (v.take j)
abbrev RowOk (u v : Wrd) (i : Nat) (R : List (Cnt Wrd)) : Prop := ∀ j ps, R[j]? = some ps → Bag ps (TT u v i j)
theorem take_snoc {α : Type} {u : List α} {i : Nat} {a : α} (h : u[i]? = some a) : u.take (i + 1) = u.take i ++ [a] := by
  rw [List.take_add_one, h]; rfl
theorem TT_step {u v : Wrd} {i j : Nat} {a b : Ltr} (ha : u[i]? = some a) (hb : v[j]? = some b) : ((TT u v i (j + 1)).map (· ++ [a]) ++ (TT u v (i + 1) j).map (· ++ [b]) ++ (TT u v i j).map (· ++ [addL a b])).Perm (TT u v (i + 1) (j + 1)) := by
  have := (Qs_last addL (u.take i) (v.take j) a b).symm
  rw [← take_snoc ha, ← take_snoc hb] at this
  exact this
abbrev innerT : TM := (dSeq (dSet 8 dDnew)
    (dSeq (dExp (ice (dCall sem_put_longer (aSlot 8 (aVal (ofF (dIxV 2 (dBin addD (dVar 6) (dC (.int 1))))) (aSlot 4 aNil))))))
    (dSeq (dExp (ice (dCall sem_put_longer (aSlot 8 (aVal (ofF (dIxV 5 (dVar 6))) (aSlot 7 aNil))))))
    (dSeq (dExp (ice (dCall sem_put_longer (aSlot 8 (aVal (ofF (dIxV 2 (dVar 6))) (aVal (dCall sem_letters_times (aSlot 4 (aSlot 7 aNil))) aNil))))))
    (dExp (dApp 5 (dVar 8)))))))
structure InS (u v : Wrd) (r : DV) (i : Nat) (a : Ltr) (j : Nat) (sd : DEnv) : Prop where
  ok : ∃ F t6 t7 t8, sd = [some (.fz (WdD u)), some (.fz (WdD v)), some r, some (.fz (.int i)), some (.fz (LtD a)), some (.ow (.lst (rowD F))), t6, t7, t8] ∧ F.length = j + 1 ∧ RowOk u v (i + 1) F
theorem inner_step {u v : Wrd} (hu : u.length ≤ 4) (hv : v.length ≤ 4) (hul : ∀ a ∈ u, a.length ≤ 100) {r : DV} {R : List (Cnt Wrd)} {i : Nat} {a : Ltr} (hr : r.d = .lst (rowD R)) (hR : R.length = v.length + 1) (hRb : RowOk u v i R) (ha : u[i]? = some a) (j : Nat) (x : D) (sd : DEnv) (hx : (enumL 0 (v.map LtD))[j]? = some x) (hs : InS u v r i a j sd) :
    ∃ s1 s2, bTup 2 (bCons (bName 6) (bCons (bName 7) bNil)) x sd = some s1 ∧ innerT s1 = some (.nx, s2) ∧ InS u v r i a (j + 1) s2 := by
  obtain ⟨F, t6, t7, t8, rfl, hF, hFb⟩ := hs.ok
  rw [enumL_get, List.getElem?_map, Nat.zero_add] at hx
  rcases hb : v[j]? with _ | b
  · rw [hb] at hx; cases hx
  rw [hb] at hx
  simp only [Option.map_some, Option.some.injEq] at hx
  subst hx
  have hj : j < v.length := (List.getElem?_eq_some_iff.mp hb).1
  have hi : i < u.length := (List.getElem?_eq_some_iff.mp ha).1
  have g1 : R[j + 1]? = some R[j + 1] := List.getElem?_eq_getElem (by omega)
  have g0 : R[j]? = some R[j] := List.getElem?_eq_getElem (by omega)
  have f0 : F[j]? = some F[j] := List.getElem?_eq_getElem (by omega)
  have tu : ∀ k, (u.take k).length ≤ 4 := fun k => by rw [List.length_take]; omega
  have tv : ∀ k, (v.take k).length ≤ 4 := fun k => by rw [List.length_take]; omega
  have L1 := QL_len (tu i) (tv (j + 1))
  have L2 := QL_len (tu (i + 1)) (tv j)
  have L3 := QL_len (tu i) (tv j)
  obtain ⟨rs1, e1, b1⟩ := put_longer_eq (rs := []) a .nil (hRb _ _ g1) (by simp only [List.length_nil, TT, lim]; omega) (fun w hw => by have := QL_wlen (tu i) (tv (j + 1)) hw; omega)
  obtain ⟨rs2, e2, b2⟩ := put_longer_eq b b1 (hFb _ _ f0) (by simp only [List.length_append, List.length_map, List.length_nil, TT, lim]; omega) (fun w hw => by have := QL_wlen (tu (i + 1)) (tv j) hw; omega)
  obtain ⟨rs3, e3, b3⟩ := put_longer_eq (addL a b) b2 (hRb _ _ g0) (by simp only [List.length_append, List.length_map, List.length_nil, TT, lim]; omega) (fun w hw => by have := QL_wlen (tu i) (tv j) hw; omega)
  rw [List.nil_append] at b3
  have b4 := b3.perm (TT_step ha hb)
  have q1 : itemD r.d (.int ((j : Int) + 1)) = some (.dct (encP kW R[j + 1])) := by rw [hr]; exact item_nat1 (rowD_get g1)
  have q2 : itemD r.d (.int (j : Int)) = some (.dct (encP kW R[j])) := by rw [hr]; exact item_nat (rowD_get g0)
  have q3 : itemD (.lst (rowD F)) (.int (j : Int)) = some (.dct (encP kW F[j])) := item_nat (rowD_get f0)
  have e0 : encP kW [] = [] := rfl
  rw [e0] at e1
  have lt := letters_times_eq a b (hul a (List.mem_of_getElem? ha))
  have hl : (rowD F).length < sizeLine := by rw [rowD_len, hF, sizeLine_eq]; omega
  refine ⟨_, _, rfl, ?_, ⟨F ++ [rs3], some (.fz (.int j)), some (.fz (LtD b)), some (.fz (.dct (encP kW rs3))), rfl, by rw [List.length_append, hF]; rfl, ?_⟩⟩
  · simp [slotsOf, q1, q2, q3, addD_ii, e1, e2, e3, lt, backTo', hl, rowD_snoc]
  · intro k ps hk
    rcases Nat.lt_or_ge k F.length with h | h
    · rw [List.getElem?_append_left h] at hk; exact hFb k ps hk
    · rw [List.getElem?_append_right h] at hk
      rcases Nat.eq_zero_or_pos (k - F.length) with e | e
      · rw [e] at hk; simp at hk; subst hk
        have : k = j + 1 := by omega
        rw [this]; exact b4
      · rw [List.getElem?_eq_none (by simp; omega)] at hk; cases hk
end K25
end

section
set_option Elab.async false
set_option linter.all false
set_option maxRecDepth 100000
set_option maxHeartbeats 1000000
namespace K25
open PySem DS L2
abbrev outerT : TM := (dSeq (dSet 5 (dLst (dCons (ice (dDisp1 (ice (dSl (dVar 0) dNoPt (dPt (dBin addD (dVar 3) (dC (.int 1)))))) (dC (.int 1)))) dNil)))
    (dSeq (dFor (dWEn (dVar 1)) (bTup 2 (bCons (bName 6) (bCons (bName 7) bNil))) innerT) (dSet 2 (dTake 5))))
structure OuS (u v : Wrd) (i : Nat) (sd : DEnv) : Prop where
  ok : ∃ r R t3 t4 t6 t7 t8, sd = [some (.fz (WdD u)), some (.fz (WdD v)), some r, t3, t4, none, t6, t7, t8] ∧ r.d = .lst (rowD R) ∧ R.length = v.length + 1 ∧ RowOk u v i R
theorem outer_step {u v : Wrd} (hu : u.length ≤ 4) (hv : v.length ≤ 4) (hul : ∀ a ∈ u, a.length ≤ 100) (i : Nat) (x : D) (sd : DEnv) (hx : (enumL 0 (u.map LtD))[i]? = some x) (hs : OuS u v i sd) :
    ∃ s1 s2, bTup 2 (bCons (bName 3) (bCons (bName 4) bNil)) x sd = some s1 ∧ outerT s1 = some (.nx, s2) ∧ OuS u v (i + 1) s2 := by
  obtain ⟨r, R, t3, t4, t6, t7, t8, rfl, hr, hR, hRb⟩ := hs.ok
  rw [enumL_get, List.getElem?_map, Nat.zero_add] at hx
  rcases ha : u[i]? with _ | a
  · rw [ha] at hx; cases hx
  rw [ha] at hx
  simp only [Option.map_some, Option.some.injEq] at hx
  subst hx
  have hi : i < u.length := (List.getElem?_eq_some_iff.mp ha).1
  obtain ⟨sd', e1, ⟨F, t6', t7', t8', e2, hF, hFb⟩⟩ := forL_ix (b := bTup 2 (bCons (bName 6) (bCons (bName 7) bNil))) (body := innerT) (InS u v r i a) (enumL 0 (v.map LtD)) [some (.fz (WdD u)), some (.fz (WdD v)), some r, some (.fz (.int i)), some (.fz (LtD a)), some (.ow (.lst (rowD [[(u.take (i + 1), 1)]]))), t6, t7, t8]
    (fun j y s hy hs => inner_step hu hv hul hr hR hRb ha j y s hy hs) ⟨[[(u.take (i + 1), 1)]], t6, t7, t8, rfl, rfl, fun j ps hj => by
      rcases j with _ | j
      · simp only [List.getElem?_cons_zero, Option.some.injEq] at hj
        subst hj
        simp only [TT, QL, List.take_zero, Qs_nil2]
        exact Bag.one _
      · simp at hj⟩
  rw [enumL_len, List.length_map] at hF
  refine ⟨_, _, rfl, ?_, ⟨.ow (.lst (rowD F)), F, some (.fz (.int i)), some (.fz (LtD a)), t6', t7', t8', rfl, rfl, hF, hFb⟩⟩
  have h1 : 1 ≤ sizeLine := by rw [sizeLine_eq]; omega
  have q : ([D.dct (encP kW [(u.take (i + 1), 1)])] : List D) = rowD [[(u.take (i + 1), 1)]] := rfl
  have w0 : ∀ s : DEnv, kWEn (some (WdD v, s)) = some (enumL 0 (v.map LtD), s) := fun _ => rfl
  simp [addD_ii, cut_to1 u i (by omega), key_W, one_W, h1, q, rowD_len, w0, e1, e2]
theorem laced_eq {u v : Wrd} (hu : u.length ≤ 4) (hv : v.length ≤ 4) (hul : ∀ a ∈ u, a.length ≤ 100) : ∃ ps, sem_laced [.fz (WdD u), .fz (WdD v)] = some (.fz (.dct (encP kW ps)), [.fz (WdD u), .fz (WdD v)]) ∧ Bag ps (QL u v) := by
  obtain ⟨sd', e1, e1'⟩ := lcL_pure (b := bName 3) (tt := dYes) (te := ice (dDisp1 (ice (dSl (dVar 1) dNoPt (dPt (dVar 3)))) (dC (.int 1)))) (vs := [3]) [some (.fz (WdD u)), some (.fz (WdD v)), none, none, none, none, none, none, none] (fun x => [some (.fz (WdD u)), some (.fz (WdD v)), none, some (.fz x), none, none, none, none, none])
    (fun x => match x with | .int j => .dct (encP kW [(v.take j.toNat, 1)]) | _ => .non) (xs := intsD (List.range (v.length + 1))) (sd := [some (.fz (WdD u)), some (.fz (WdD v)), none, none, none, none, none, none, none]) (by
      intro x hx
      obtain ⟨j, hj, rfl⟩ := List.mem_map.mp hx
      have hj' : j ≤ v.length := by have := List.mem_range.mp hj; omega
      refine ⟨rfl, rfl, ?_, rfl⟩
      simp [cut_to _ _ hj', key_W, one_W]) rfl
  have e3 : (intsD (List.range (v.length + 1))).map (fun x => match x with | D.int j => D.dct (encP kW [(v.take j.toNat, 1)]) | _ => .non) = rowD ((List.range (v.length + 1)).map fun j => [(v.take j, 1)]) := by
    unfold intsD rowD; rw [List.map_map, List.map_map]; apply List.map_congr_left; intro j _; simp
  rw [e3] at e1
  have hR0 : RowOk u v 0 ((List.range (v.length + 1)).map fun j => [(v.take j, 1)]) := fun j ps hj => by
    rw [List.getElem?_map] at hj
    rcases h : (List.range (v.length + 1))[j]? with _ | k
    · rw [h] at hj; cases hj
    · rw [h] at hj
      have := List.getElem?_eq_some_iff.mp h
      obtain ⟨_, h2⟩ := this
      rw [List.getElem_range] at h2
      subst h2
      simp only [Option.map_some, Option.some.injEq] at hj
      subst hj
      simp only [TT, QL, List.take_zero, Qs_nil]
      exact Bag.one _
  obtain ⟨sd2, f1, ⟨r, R, t3, t4, t6, t7, t8, f2, hr, hR, hRb⟩⟩ := forL_ix (b := bTup 2 (bCons (bName 3) (bCons (bName 4) bNil))) (body := outerT) (OuS u v) (enumL 0 (u.map LtD)) [some (.fz (WdD u)), some (.fz (WdD v)), some (.ow (.lst (rowD ((List.range (v.length + 1)).map fun j => [(v.take j, 1)])))), none, none, none, none, none, none]
    (fun i x s hx hs => outer_step hu hv hul i x s hx hs) ⟨.ow (.lst (rowD ((List.range (v.length + 1)).map fun j => [(v.take j, 1)]))), (List.range (v.length + 1)).map fun j => [(v.take j, 1)], _, _, _, _, _, rfl, rfl, by simp, hR0⟩
  rw [enumL_len, List.length_map] at hRb
  have hn : R[v.length]? = some R[v.length] := List.getElem?_eq_getElem (by omega)
  have hb := hRb _ _ hn
  simp only [TT, List.take_length] at hb
  have hRs : R = R.take v.length ++ [R[v.length]] := by rw [← take_snoc hn, List.take_of_length_le (by omega)]
  have q1 : itemD r.d (.int (-1)) = some (.dct (encP kW R[v.length])) := by
    rw [hr]
    have : rowD R = rowD (R.take v.length) ++ [.dct (encP kW R[v.length])] := by rw [rowD_snoc, ← hRs]
    rw [this]; exact item_last
  refine ⟨R[v.length], ?_, hb⟩
  have hl : (rowD ((List.range (v.length + 1)).map fun j => [(v.take j, 1)])).length ≤ sizeLine := by rw [rowD_len, List.length_map, List.length_range, sizeLine_eq]; omega
  have w0 : ∀ s : DEnv, kWEn (some (WdD u, s)) = some (enumL 0 (u.map LtD), s) := fun _ => rfl
  have hd : dWR1 (dBin addD (ice (dBI lenB (aSlot 1 aNil))) (dC (.int 1))) [some (.fz (WdD u)), some (.fz (WdD v)), none, none, none, none, none, none, none] = some (intsD (List.range (v.length + 1)), [some (.fz (WdD u)), some (.fz (WdD v)), none, none, none, none, none, none, none]) := dWR1_nat (by simp [lenB_W, addD_ii]) (by omega)
  generalize rowD ((List.range (v.length + 1)).map fun j => [(v.take j, 1)]) = ro at *
  simp [sem_laced, semOf_s, t_laced, List.replicate, hd, e1, e1', hl, w0, f1, f2, q1, wbs]
end K25
end

section
set_option Elab.async false
set_option linter.all false
set_option maxRecDepth 100000
set_option maxHeartbeats 1000000
namespace K25
open PySem DS L2
/-! ### words as data that is sorted and compared -/
def pdL (a : Ltr) : PyData := .tuple (a.map .int)
def pdW (w : Wrd) : PyData := .tuple (w.map pdL)
def pdI (p : Wrd × Nat) : PyData := .tuple [pdW p.1, .int p.2]
def ItD (p : Wrd × Nat) : D := .tup [WdD p.1, .int p.2]
theorem pds_ints : ∀ a : Ltr, D.pds (a.map D.int) = some (a.map PyData.int)
  | [] => rfl
  | i :: a => by simp only [List.map_cons, D.pds, D.pd, pds_ints a]
theorem pd_LtD (a : Ltr) : D.pd (LtD a) = some (pdL a) := by simp only [LtD, D.pd, pds_ints, pdL]
theorem pds_ltrs : ∀ w : Wrd, D.pds (w.map LtD) = some (w.map pdL)
  | [] => rfl
  | a :: w => by simp only [List.map_cons, D.pds, pd_LtD, pds_ltrs w]
theorem pd_WdD (w : Wrd) : D.pd (WdD w) = some (pdW w) := by simp only [WdD, D.pd, pds_ltrs, pdW]
theorem pd_ItD (p : Wrd × Nat) : D.pd (ItD p) = some (pdI p) := by simp only [ItD, D.pd, D.pds, pd_WdD, pdI]
theorem pds_ItD : ∀ l : List (Wrd × Nat), D.pds (l.map ItD) = some (l.map pdI)
  | [] => rfl
  | p :: l => by simp only [List.map_cons, D.pds, pd_ItD, pds_ItD l]
theorem alike_ints : ∀ a b : Ltr, PySem.W.alikeAll (a.map PyData.int) (b.map PyData.int) = true
  | [], _ => by rw [List.map_nil, PySem.W.alikeAll]
  | _ :: _, [] => by simp [PySem.W.alikeAll]
  | i :: a, j :: b => by rw [List.map_cons, List.map_cons, PySem.W.alikeAll, PySem.W.alike, alike_ints a b]; rfl
theorem alike_L (a b : Ltr) : PySem.W.alike (pdL a) (pdL b) = true := by rw [pdL, pdL, PySem.W.alike]; exact alike_ints a b
theorem alike_Ls : ∀ a b : Wrd, PySem.W.alikeAll (a.map pdL) (b.map pdL) = true
  | [], _ => by rw [List.map_nil, PySem.W.alikeAll]
  | _ :: _, [] => by simp [PySem.W.alikeAll]
  | i :: a, j :: b => by rw [List.map_cons, List.map_cons, PySem.W.alikeAll, alike_L, alike_Ls a b]; rfl
theorem alike_W (a b : Wrd) : PySem.W.alike (pdW a) (pdW b) = true := by rw [pdW, pdW, PySem.W.alike]; exact alike_Ls a b
theorem alike_I (p q : Wrd × Nat) : PySem.W.alike (pdI p) (pdI q) = true := by
  simp [pdI, PySem.W.alike, PySem.W.alikeAll, alike_W]
theorem lay_ints : ∀ a : Ltr, PyData.canLayAll0 (a.map PyData.int) = true ∧ PyData.depthAll (a.map PyData.int) = 0
  | [] => ⟨rfl, rfl⟩
  | i :: a => by simp [PyData.canLayAll0, PyData.canLay0, PyData.depthAll, PyData.depth, lay_ints a]
theorem lay_L (a : Ltr) : (pdL a).canLay0 = true ∧ (pdL a).depth ≤ 1 := by simp [pdL, PyData.canLay0, PyData.depth, lay_ints a]
theorem lay_Ls : ∀ w : Wrd, PyData.canLayAll0 (w.map pdL) = true ∧ PyData.depthAll (w.map pdL) ≤ 1
  | [] => ⟨rfl, Nat.zero_le _⟩
  | a :: w => by
    have h := lay_Ls w
    have h2 := lay_L a
    simp only [List.map_cons, PyData.canLayAll0, PyData.depthAll, h.1, h2.1]
    exact ⟨rfl, by omega⟩
theorem lay_W (w : Wrd) : (pdW w).canLay0 = true ∧ (pdW w).depth ≤ 2 := by
  have h := lay_Ls w
  simp only [pdW, PyData.canLay0, PyData.depth, h.1]
  exact ⟨trivial, by omega⟩
theorem lay_I (p : Wrd × Nat) : (pdI p).canLay0 = true ∧ (pdI p).depth ≤ 3 := by
  have h := lay_W p.1
  simp only [pdI, PyData.canLay0, PyData.canLayAll0, PyData.depth, PyData.depthAll, h.1]
  exact ⟨rfl, by omega⟩
theorem lay_Is : ∀ l : List (Wrd × Nat), PyData.canLayAll0 (l.map pdI) = true ∧ PyData.depthAll (l.map pdI) ≤ 3
  | [] => ⟨rfl, Nat.zero_le _⟩
  | a :: w => by
    have h := lay_Is w
    have h2 := lay_I a
    simp only [List.map_cons, PyData.canLayAll0, PyData.depthAll, h.1, h2.1]
    exact ⟨rfl, by omega⟩
theorem eqA_same {d : D} {x : PyData} (h : D.pd d = some x) (h1 : x.canLay0 = true) (h2 : x.depth ≤ 64) (neg : Bool) : eqA neg d d = some (.bl (!neg)) := by
  have h3 : SeqAt.shaped x = true := by simp [SeqAt.shaped, h1, h2]
  simp [eqA, eqP, h, h3, PySem.SeqAt.eqv_refl x h1]
theorem eqA_W (w : Wrd) (neg : Bool) : eqA neg (WdD w) (WdD w) = some (.bl (!neg)) := eqA_same (pd_WdD w) (lay_W w).1 (by have := (lay_W w).2; omega) neg
theorem eqA_items (l : List (Wrd × Nat)) (neg : Bool) : eqA neg (.lst (l.map ItD)) (.lst (l.map ItD)) = some (.bl (!neg)) := by
  refine eqA_same (x := .list (l.map pdI)) ?_ ?_ ?_ neg
  · simp only [D.pd, pds_ItD]
  · simp only [PyData.canLay0]; exact (lay_Is l).1
  · have := (lay_Is l).2; simp only [PyData.depth]; omega
theorem encP_ItD (ps : Cnt Wrd) : encP kW ps = ps.map ItD := rfl
theorem sortD_items {ps : Cnt Wrd} (h : ps.length ≤ sizeLine) : ∃ l, sortD (ps.map ItD) = some l := by
  have hok : srtOk (ps.map pdI) = true := by
    unfold srtOk alikeL
    simp only [Bool.and_eq_true, Bool.or_eq_true, List.all_eq_true, List.mem_map]
    refine ⟨⟨?_, .inl ?_⟩, ?_⟩
    · rintro _ ⟨p, _, rfl⟩ _ ⟨q, _, rfl⟩; exact alike_I p q
    · rintro _ ⟨p, _, rfl⟩; rfl
    · rintro _ ⟨p, _, rfl⟩; have := (lay_I p).2; exact decide_eq_true (by omega)
  unfold sortD
  rw [pds_ItD]
  simp only
  rw [if_pos ⟨hok, by rw [List.length_map]; exact h⟩]
  exact ⟨_, rfl⟩
/-- the items of a bag, sorted -/
def srtW (m : List Wrd) : List D := (sortD ((cntOf m).map ItD)).getD []
theorem perm_of_map {β γ : Type} (f : β → γ) {a r : List γ} (p : a.Perm r) : ∀ l : List β, a = l.map f → ∃ l' : List β, r = l'.map f ∧ l.Perm l' := by
  induction p with
  | nil => intro l h; exact ⟨[], rfl, by rw [List.map_eq_nil_iff.mp h.symm]⟩
  | cons x p ih =>
    intro l h
    rcases l with _ | ⟨y, l⟩
    · cases h
    · rw [List.map_cons] at h
      injection h with h1 h2
      obtain ⟨l', e, q⟩ := ih l h2
      exact ⟨y :: l', by rw [e, h1]; rfl, .cons _ q⟩
  | swap x y p =>
    intro l h
    rcases l with _ | ⟨a, _ | ⟨b, l⟩⟩
    · cases h
    · cases h
    · simp only [List.map_cons, List.cons.injEq] at h
      obtain ⟨h1, h2, h3⟩ := h
      exact ⟨b :: a :: l, by rw [h1, h2, h3]; rfl, .swap _ _ _⟩
  | trans p q ih1 ih2 =>
    intro l h
    obtain ⟨l1, e1, q1⟩ := ih1 l h
    obtain ⟨l2, e2, q2⟩ := ih2 l1 e1
    exact ⟨l2, e2, q1.trans q2⟩
theorem srtW_eq {ps : Cnt Wrd} {m : List Wrd} (h : Bag ps m) (hm : m.length ≤ lim) : sortD (ps.map ItD) = some (srtW m) := by
  have hl := (cntOf_bag m).len
  obtain ⟨l, e⟩ := sortD_items (ps := cntOf m) (by rw [sizeLine_eq]; simp only [lim] at hm; omega)
  have p := (cntOf_bag m).same h
  rw [srtW, e]
  exact sortD_perm e (p.map ItD)
theorem Bag.perm_ps {α : Type} [DecidableEq α] {ps qs : Cnt α} {m : List α} (h : Bag ps m) (p : ps.Perm qs) : Bag qs m := by
  refine (Bag.self ((p.map (·.1)).nodup_iff.mp h.nd) fun x hx => h.pos x (p.mem_iff.mpr hx)).perm ?_
  refine List.Perm.trans ?_ h.flat.symm
  exact (p.symm.flatMap_right _)
theorem srtW_bag {m : List Wrd} (hm : m.length ≤ lim) : ∃ ps, srtW m = ps.map ItD ∧ Bag ps m := by
  have hl := (cntOf_bag m).len
  obtain ⟨l, e⟩ := sortD_items (ps := cntOf m) (by rw [sizeLine_eq]; simp only [lim] at hm; omega)
  have e2 : srtW m = l := by rw [srtW, e]; rfl
  have p : ((cntOf m).map ItD).Perm l := by
    unfold sortD at e
    split at e
    · obtain ⟨_, e⟩ := ite_some e
      rw [← e]
      exact (List.mergeSort_perm _ _).symm
    · cases e
  obtain ⟨l', h1, h2⟩ := perm_of_map ItD p _ rfl
  exact ⟨l', by rw [e2, h1], Bag.perm_ps (cntOf_bag m) h2⟩
theorem srtW_perm {m m' : List Wrd} (p : m.Perm m') (hm : m.length ≤ lim) : srtW m = srtW m' := by
  have h := srtW_eq ((cntOf_bag m).perm p) (by rw [← p.length_eq]; exact hm)
  have h2 := srtW_eq (cntOf_bag m) hm
  rw [h] at h2
  injection h2 with h2
  exact h2.symm
theorem srtW_one (w : Wrd) : srtW [w] = [ItD (w, 1)] := by
  have h : Bag [(w, 1)] [w] := Bag.one w
  obtain ⟨ps, e, hb⟩ := srtW_bag (m := [w]) (by simp [lim])
  have p := h.same hb
  rw [List.perm_singleton.mp p.symm] at e
  exact e
theorem lacings_eq {c : Nat} {u v : Wrd} (hc : c ≤ 3) (hu : WOk c u) (hv : WOk c v) (hul : u.length ≤ 4) (hvl : v.length ≤ 4) : sem_lacings [.fz (.int c), .fz (WdD u), .fz (WdD v)] = some (.ow (.lst (srtW (QL u v))), [.fz (.int c), .fz (WdD u), .fz (WdD v)]) := by
  obtain ⟨ps, e1, hb⟩ := laced_eq hul hvl fun a ha => by have := (hu.2 a ha).1; omega
  have hl := QL_len hul hvl
  have e2 := srtW_eq hb (by simp only [lim]; omega)
  have hd : (delN u.length v.length : Int) ≤ 400 := by have := delN_le hul hvl; omega
  simp [sem_lacings, semOf_s, t_lacings, slotsOf, want_columns_eq c (by omega) (by omega), want_word_eq c u hu hc, want_word_eq c v hv hc, lenB_W, ways_many_eq u.length v.length (by omega) (by omega), want_at_most_eq _ _ _ hd, e1, encP_ItD, e2, backTo', wbs]
end K25
end

section
set_option Elab.async false
set_option linter.all false
set_option maxRecDepth 100000
set_option maxHeartbeats 1000000
namespace K25
open PySem DS L2
theorem modD_pos {i j : Int} (h : 0 < j) : modD (.int i) (.int j) = some (.int (i % j)) := by
  simp only [modD]
  rw [if_pos (by omega), Int.fmod_eq_emod_of_nonneg _ (by omega)]
theorem mulD_b {i j : Int} (h1 : -9000000000000000000 ≤ i) (h2 : i ≤ 9000000000000000000) (h3 : -9000000000000000000 ≤ j) (h4 : j ≤ 9000000000000000000) : mulD (.int i) (.int j) = some (.int (i * j)) := by
  have k : ∀ i : Int, -9000000000000000000 ≤ i → i ≤ 9000000000000000000 → i.natAbs.log2 < 64 := fun i h h' => by
    by_cases h0 : i.natAbs = 0
    · rw [h0]; decide
    · rw [Nat.log2_lt h0]
      have : (2 : Nat) ^ 64 = 18446744073709551616 := by decide
      omega
  have a := k i h1 h2
  have b := k j h3 h4
  simp only [mulD]
  rw [if_pos (by omega)]
theorem pow18 : powD (.int 10) (.int 18) = some (.int 1000000000000000000) := by
  simp only [powD]
  rw [if_pos (by decide)]
  rfl
theorem subD_ii (i j : Int) : subD (.int i) (.int j) = some (.int (i - j)) := rfl
theorem fdiv17 (i : Int) : fdivD (.int i) (.int 17) = some (.int (i.fdiv 17)) := by
  simp only [fdivD]
  rw [if_pos (by decide)]
theorem lenB_kl (l : List D) : lenB [.kl l] = some (.fz (.int l.length)) := rfl
theorem ltD_ii (i j : Int) : ltD (.int i) (.int j) = some (.bl (decide (i < j))) := rfl
theorem gtD_ii (i j : Int) : gtD (.int i) (.int j) = some (.bl (decide (j < i))) := rfl
theorem maxB_ii (i j : Int) : maxB [.int i, .int j] = some (.fz (.int (if j > i then j else i))) := rfl
theorem intB_i (i : Int) : intB [.int i] = some (.fz (.int i)) := rfl
theorem absB_i (i : Int) : absB [.int i] = some (.fz (.int (if i < 0 then -i else i))) := rfl
theorem item_kl0 (i : Int) (l : List D) : itemD (.kl (.int i :: l)) (.int 0) = some (.int i) := by
  have : itemD (.kl (.int i :: l)) (.int ((0 : Nat) : Int)) = some (.int i) := atI_nat (α := D) (l := D.int i :: l) (i := 0) (x := D.int i) rfl
  exact this
theorem law_pot_eq (ns : List Int) : ∃ a b : Int, sem_law_pot [.fz (.kl (ns.map .int)), .fz (.int 0)] = some (.ow (.lst [.int a, .int b]), [.fz (.kl (ns.map .int)), .fz (.int 0)]) ∧ 0 ≤ b ∧ b < 2147483648 := by
  have h2 : 2 ≤ sizeLine := by decide
  rcases ns with _ | ⟨n, ns⟩
  · refine ⟨0, _, by
      simp [sem_law_pot, semOf_s, t_law_pot, List.replicate, lenB_kl, ltD_ii, mulD_b, addD_ii, subD_ii, maxB_ii, intB_i, pow18, modD_pos, h2, wbs]
      rfl, by decide, by decide⟩
  · obtain ⟨x, hx⟩ : ∃ x : Int, x = if n < 0 then -n else n := ⟨_, rfl⟩
    have m1 : mulD (.int (x % 2147483549)) (.int 48271) = some (.int (x % 2147483549 * 48271)) := mulD_b (by omega) (by omega) (by omega) (by omega)
    have m2 : mulD (.int 29742) (.int 0) = some (.int (29742 * 0)) := mulD_b (by omega) (by omega) (by omega) (by omega)
    have hp : 0 < ns.length + 1 := by omega
    have hp' : (0 : Int) < (ns.length : Int) + 1 := by omega
    refine ⟨(if x - 1000000000000000000 > 0 then x - 1000000000000000000 else 0), (x % 2147483549 * 48271 + 29742 * 0 + 733) % 2147483563 + 1, ?_, by omega, by omega⟩
    simp only [sem_law_pot, semOf_s, t_law_pot]
    simp [List.replicate, lenB_kl, ltD_ii, item_kl0, absB_i, hp', ← hx, m1, m2, addD_ii, subD_ii, maxB_ii, intB_i, pow18, modD_pos, h2, wbs]
theorem item0 (x y : D) : itemD (.lst [x, y]) (.int 0) = some x := item_nat (l := [x, y]) (i := 0) rfl
theorem item1 (x y : D) : itemD (.lst [x, y]) (.int 1) = some y := item_nat (l := [x, y]) (i := 1) rfl
theorem set0 (x y z : D) : setD (.lst [x, y]) (.int 0) z = some (.lst [z, y]) := rfl
theorem set1 (x y z : D) : setD (.lst [x, y]) (.int 1) z = some (.lst [x, z]) := rfl
theorem divmod_ii {i j : Int} (h : 0 < j) (h2 : j ≤ 1000) : divmodB [.int i, .int j] = some (.fz (.tup [.int (i / j), .int (i % j)])) := by
  simp only [divmodB]; rw [if_pos (by omega)]
theorem law_draw_eq (a b m : Int) (hb : 0 ≤ b) (hb2 : b < 2147483648) (hm : 0 < m) (hm2 : m ≤ 1000) : ∃ a' b' k : Int, sem_law_draw [.ow (.lst [.int a, .int b]), .fz (.int m)] = some (.fz (.int k), [.ow (.lst [.int a', .int b']), .fz (.int m)]) ∧ 0 ≤ b' ∧ b' < 2147483648 ∧ 0 ≤ k ∧ k < m := by
  by_cases h : 0 < a
  · refine ⟨a / m, b, a % m, ?_, hb, hb2, Int.emod_nonneg _ (by omega), Int.emod_lt_of_pos _ hm⟩
    simp [sem_law_draw, semOf_s, t_law_draw, List.replicate, item0, item1, set0, set1, gtD_ii, h, divmod_ii hm hm2, wbs]
  · obtain ⟨y, hy⟩ : ∃ y : Int, y = (b * 39373 + 733) % 2147483587 := ⟨_, rfl⟩
    have hy1 : 0 ≤ y ∧ y < 2147483587 := by omega
    have m1 : mulD (.int b) (.int 39373) = some (.int (b * 39373)) := mulD_b (by omega) (by omega) (by omega) (by omega)
    have m2 : mulD (.int y) (.int y) = some (.int (y * y)) := mulD_b (by omega) (by omega) (by omega) (by omega)
    refine ⟨a, y, ((y * y) % 2147483563).fdiv 17 % m, ?_, by omega, by omega, Int.emod_nonneg _ (by omega), Int.emod_lt_of_pos _ hm⟩
    simp [sem_law_draw, semOf_s, t_law_draw, List.replicate, item0, item1, set0, set1, gtD_ii, h, m1, m2, ← hy, modD_pos, modD_pos hm, addD_ii, intB_i, fdiv17, wbs]
end K25
end

section
set_option Elab.async false
set_option linter.all false
set_option maxRecDepth 100000
set_option maxHeartbeats 1000000
namespace K25
open PySem DS L2
abbrev potD (a b : Int) : DV := .ow (.lst [.int a, .int b])
def BOk (b : Int) : Prop := 0 ≤ b ∧ b < 2147483648
def WB (c : Nat) (B : Int) (w : Wrd) : Prop := ∀ a ∈ w, a.length = c ∧ ∀ x ∈ a, 0 ≤ x ∧ x ≤ B
theorem law_letter_eq (a b : Int) (c : Nat) (hb : BOk b) (hc : c ≤ 3) : ∃ a' b' : Int, ∃ l : Ltr, sem_law_letter [potD a b, .fz (.int c), .fz (.int 2)] = some (.fz (LtD l), [potD a' b', .fz (.int c), .fz (.int 2)]) ∧ BOk b' ∧ l.length = c ∧ ∀ x ∈ l, 0 ≤ x ∧ x ≤ 2 := by
  obtain ⟨sd', e1, a', b', l, t4, e2, h1, h2, h3⟩ := forL_ix (b := bName 4) (body := dExp (dApp 3 (ice (dCall sem_law_draw (aSlot 0 (aVal (ofF (dBin addD (dVar 2) (dC (.int 1)))) aNil))))))
    (fun i sd => ∃ a b : Int, ∃ l : Ltr, ∃ t4, sd = [some (potD a b), some (.fz (.int c)), some (.fz (.int 2)), some (.ow (.lst (l.map .int))), t4] ∧ BOk b ∧ l.length = i ∧ ∀ x ∈ l, 0 ≤ x ∧ x ≤ 2) (intsD (List.range c)) [some (potD a b), some (.fz (.int c)), some (.fz (.int 2)), some (.ow (.lst [])), none] (by
      rintro i x sd hx ⟨a, b, l, t4, rfl, h1, h2, h3⟩
      obtain ⟨hi, rfl⟩ := intsD_range_get hx
      obtain ⟨a', b', k, d1, d2, d3, d4, d5⟩ := law_draw_eq a b 3 h1.1 h1.2 (by omega) (by omega)
      have hl : l.length < sizeLine := by rw [sizeLine_eq]; omega
      refine ⟨_, _, rfl, ?_, a', b', l ++ [k], some (.fz (.int i)), rfl, ⟨d2, d3⟩, by rw [List.length_append, h2]; rfl, fun x hx => ?_⟩
      · simp [slotsOf, addD_ii, d1, backTo', hl]
      · rcases List.mem_append.mp hx with hx | hx
        · exact h3 x hx
        · rw [List.mem_singleton.mp hx]; omega) ⟨a, b, [], none, rfl, hb, rfl, by simp⟩
  rw [intsD_len, List.length_range] at h2
  have hd : dWR1 (dVar 1) [some (potD a b), some (.fz (.int c)), some (.fz (.int 2)), some (.ow (.lst [])), none] = some (intsD (List.range c), _) := dWR1_nat rfl (by omega)
  refine ⟨a', b', l, ?_, h1, h2, h3⟩
  simp [sem_law_letter, semOf_s, t_law_letter, List.replicate, hd, e1, e2, tupleB, wbs, LtD]
theorem law_word_eq (a b : Int) (c n : Nat) (hb : BOk b) (hc : c ≤ 3) (hn : n ≤ 100) : ∃ a' b' : Int, ∃ w : Wrd, sem_law_word [potD a b, .fz (.int c), .fz (.int n)] = some (.fz (WdD w), [potD a' b', .fz (.int c), .fz (.int n)]) ∧ BOk b' ∧ w.length = n ∧ WB c 2 w := by
  obtain ⟨sd', e1, a', b', l, t4, e2, h1, h2, h3⟩ := forL_ix (b := bName 4) (body := dExp (dApp 3 (ice (dCall sem_law_letter (aSlot 0 (aSlot 1 (aVal (ofF (dC (.int 2))) aNil)))))))
    (fun i sd => ∃ a b : Int, ∃ l : Wrd, ∃ t4, sd = [some (potD a b), some (.fz (.int c)), some (.fz (.int n)), some (.ow (.lst (l.map LtD))), t4] ∧ BOk b ∧ l.length = i ∧ WB c 2 l) (intsD (List.range n)) [some (potD a b), some (.fz (.int c)), some (.fz (.int n)), some (.ow (.lst [])), none] (by
      rintro i x sd hx ⟨a, b, l, t4, rfl, h1, h2, h3⟩
      obtain ⟨hi, rfl⟩ := intsD_range_get hx
      obtain ⟨a', b', k, d1, d2, d3, d4⟩ := law_letter_eq a b c h1 hc
      have hl : l.length < sizeLine := by rw [sizeLine_eq]; omega
      refine ⟨_, _, rfl, ?_, a', b', l ++ [k], some (.fz (.int i)), rfl, d2, by rw [List.length_append, h2]; rfl, fun x hx => ?_⟩
      · simp [slotsOf, addD_ii, d1, backTo', hl]
      · rcases List.mem_append.mp hx with hx | hx
        · exact h3 x hx
        · rw [List.mem_singleton.mp hx]; exact ⟨d3, d4⟩) ⟨a, b, [], none, rfl, hb, rfl, by simp [WB]⟩
  rw [intsD_len, List.length_range] at h2
  have hd : dWR1 (dVar 2) [some (potD a b), some (.fz (.int c)), some (.fz (.int n)), some (.ow (.lst [])), none] = some (intsD (List.range n), _) := dWR1_nat rfl (by omega)
  refine ⟨a', b', l, ?_, h1, h2, h3⟩
  simp [sem_law_word, semOf_s, t_law_word, List.replicate, hd, e1, e2, tupleB, wbs, WdD]
end K25
end

section
set_option Elab.async false
set_option linter.all false
set_option maxRecDepth 100000
set_option maxHeartbeats 1000000
namespace K25
open PySem DS L2
abbrev NLD (o : List Nat) : D := .lst (intsD o)
def chD (L : List (List Nat)) : List D := L.map NLD
theorem intsD_snoc (o : List Nat) (k : Nat) : intsD o ++ [.int (k : Int)] = intsD (o ++ [k]) := by simp [intsD]
theorem pds_intsD : ∀ o : List Nat, D.pds (intsD o) = some (o.map fun (i : Nat) => PyData.int (i : Int))
  | [] => rfl
  | i :: o => by
    have := pds_intsD o
    simp only [intsD, List.map_cons, D.pds, D.pd] at this ⊢
    rw [this]
theorem ne_nil_eq (o : List Nat) : eqA true (NLD o) (.lst []) = some (.bl (!o.isEmpty)) := by
  rcases o with _ | ⟨i, o⟩
  · exact eqA_same (x := .list []) rfl rfl (by simp [PyData.depth, PyData.depthAll]) true
  · have lay : ∀ o : List Nat, PyData.canLayAll0 (o.map fun (i : Nat) => PyData.int (i : Int)) = true ∧ PyData.depthAll (o.map fun (i : Nat) => PyData.int (i : Int)) = 0 := by
      intro o
      induction o with
      | nil => exact ⟨rfl, rfl⟩
      | cons i o ih => simp [PyData.canLayAll0, PyData.canLay0, PyData.depthAll, PyData.depth, ih]
    have h1 : D.pd (NLD (i :: o)) = some (.list ((i :: o).map fun (i : Nat) => PyData.int (i : Int))) := by simp only [D.pd, pds_intsD]
    have h2 : D.pd (.lst []) = some (.list []) := rfl
    have s1 : SeqAt.shaped (.list ((i :: o).map fun (i : Nat) => PyData.int (i : Int))) = true := by
      have := lay (i :: o)
      simp only [SeqAt.shaped, PyData.canLay0, PyData.depth, this.1, this.2]; rfl
    have s2 : SeqAt.shaped (.list []) = true := rfl
    simp only [eqA, eqP, h1, h2, s1, s2, and_self, if_true]
    rfl
def stN (o : List Nat) : Nat := match o.getLast? with | some k => k + 1 | none => 0
theorem stN_snoc (o : List Nat) (k : Nat) : stN (o ++ [k]) = k + 1 := by simp [stN]
theorem chs_succ (b k : Nat) : chs b (k + 1) = (chs b k).flatMap fun o => (List.range' (stN o) (b - stN o)).map fun i => o ++ [i] := rfl
theorem chs_mem_lt : ∀ (b k : Nat) (o : List Nat), o ∈ chs b k → o.length = k ∧ ∀ i ∈ o, i < b
  | b, 0, o, h => by rw [chs, List.mem_singleton] at h; subst h; exact ⟨rfl, by simp⟩
  | b, k + 1, o, h => by
    rw [chs_succ] at h
    obtain ⟨o', h1, h2⟩ := List.mem_flatMap.mp h
    obtain ⟨i, h3, rfl⟩ := List.mem_map.mp h2
    obtain ⟨h4, h5⟩ := chs_mem_lt b k o' h1
    have h6 := List.mem_range'_1.mp h3
    refine ⟨by rw [List.length_append, h4]; rfl, fun j hj => ?_⟩
    rcases List.mem_append.mp hj with hj | hj
    · exact h5 j hj
    · rw [List.mem_singleton.mp hj]; omega
theorem stN_le {b k : Nat} {o : List Nat} (h : o ∈ chs b k) : stN o ≤ b := by
  have := (chs_mem_lt b k o h).2
  unfold stN
  split
  · rename_i k hk; have := this k (List.mem_of_getLast? hk); omega
  · omega
theorem chs_len : ∀ (b k : Nat), (chs b k).length ≤ b ^ k
  | b, 0 => by simp [chs]
  | b, k + 1 => by
    rw [chs_succ, List.length_flatMap, Nat.pow_succ]
    have : ∀ L : List (List Nat), (L.map fun o => ((List.range' (stN o) (b - stN o)).map fun i => o ++ [i]).length).sum ≤ L.length * b := by
      intro L
      induction L with
      | nil => simp
      | cons o L ih =>
        simp only [List.map_cons, List.sum_cons, List.length_map, List.length_range', List.length_cons, Nat.add_mul, Nat.one_mul] at ih ⊢
        omega
    exact Nat.le_trans (this _) (Nat.mul_le_mul_right _ (chs_len b k))
abbrev chT : TM := (dExp (dExt 4 (ice (dLc (dWR2 (dIf (dTst (dBin (eqA true) (dVar 5) (ice (dLst dNil)))) (dBin addD (dIxV 5 (dNeg (dC (.int 1)))) (dC (.int 1))) (dC (.int 0))) (dVar 0)) (bName 6) dYes (dBin addD (dVar 5) (ice (dLst (dCons (dVar 6) dNil)))) [6]))))
theorem ch_one {b k m : Nat} {o : List Nat} (ho : o ∈ chs b k) (hb : b ≤ 100) (hk : k ≤ 100) (f t : DV) (l : List (List Nat)) (hl : l.length + (b - stN o) ≤ lim) (t5 : Option DV) :
    ∃ s1, bName 5 (NLD o) [some (.fz (.int b)), some (.fz (.int m)), some f, some t, some (.ow (.lst (chD l))), t5, none] = some s1 ∧ chT s1 = some (.nx, [some (.fz (.int b)), some (.fz (.int m)), some f, some t, some (.ow (.lst (chD (l ++ (List.range' (stN o) (b - stN o)).map fun i => o ++ [i])))), some (.fz (NLD o)), none]) := by
  have hs := stN_le ho
  have hol := (chs_mem_lt b k o ho).1
  obtain ⟨sd', e1, e2⟩ := lcL_pure (b := bName 6) (tt := dYes) (te := dBin addD (dVar 5) (ice (dLst (dCons (dVar 6) dNil)))) (vs := [6]) [some (.fz (.int b)), some (.fz (.int m)), some f, some t, some (.ow (.lst (chD l))), some (.fz (NLD o)), none] (fun x => [some (.fz (.int b)), some (.fz (.int m)), some f, some t, some (.ow (.lst (chD l))), some (.fz (NLD o)), some (.fz x)])
    (fun x => match x with | .int i => NLD (o ++ [i.toNat]) | _ => .non) (xs := intsD (List.range' (stN o) (b - stN o))) (sd := [some (.fz (.int b)), some (.fz (.int m)), some f, some t, some (.ow (.lst (chD l))), some (.fz (NLD o)), none]) (by
      intro x hx
      obtain ⟨i, hi, rfl⟩ := List.mem_map.mp hx
      refine ⟨rfl, rfl, ?_, rfl⟩
      have h1 : 1 ≤ sizeLine := by rw [sizeLine_eq]; omega
      have h2 : (intsD o).length + [D.int (i : Int)].length ≤ sizeLine := by rw [intsD_len, hol, sizeLine_eq]; simp; omega
      have q : addD (NLD o) (.lst [.int (i : Int)]) = some (NLD (o ++ [i])) := by
        simp only [addD]; rw [if_pos h2, intsD_snoc]
      simp [h1, q]) rfl
  have e3 : (intsD (List.range' (stN o) (b - stN o))).map (fun x => match x with | D.int i => NLD (o ++ [i.toNat]) | _ => .non) = chD ((List.range' (stN o) (b - stN o)).map fun i => o ++ [i]) := by
    unfold intsD chD; rw [List.map_map, List.map_map]; apply List.map_congr_left; intro j _; simp
  rw [e3] at e1
  have hd : dWR2 (dIf (dTst (dBin (eqA true) (dVar 5) (ice (dLst dNil)))) (dBin addD (dIxV 5 (dNeg (dC (.int 1)))) (dC (.int 1))) (dC (.int 0))) (dVar 0) [some (.fz (.int b)), some (.fz (.int m)), some f, some t, some (.ow (.lst (chD l))), some (.fz (NLD o)), none] = some (intsD (List.range' (stN o) (b - stN o)), [some (.fz (.int b)), some (.fz (.int m)), some f, some t, some (.ow (.lst (chD l))), some (.fz (NLD o)), none]) := by
    refine dWR2_nat (m := stN o) (n := b) (sd1 := [some (.fz (.int b)), some (.fz (.int m)), some f, some t, some (.ow (.lst (chD l))), some (.fz (NLD o)), none]) ?_ rfl (by omega) (by omega)
    have h0 : 0 ≤ sizeLine := Nat.zero_le _
    rcases List.eq_nil_or_concat o with rfl | ⟨o', j, rfl⟩
    · have q := ne_nil_eq []
      simp [q, stN]
    · have q := ne_nil_eq (o' ++ [j])
      have q2 : itemD (NLD (o' ++ [j])) (.int (-1)) = some (.int (j : Int)) := by
        rw [NLD, ← intsD_snoc]; exact item_last
      have q3 : (!(o' ++ [j]).isEmpty) = true := by cases o' <;> rfl
      rw [q3] at q
      have q4 : stN (o' ++ [j]) = j + 1 := stN_snoc o' j
      simp [q, q2, addD_ii, q4]
  have hl1 : (chD ((List.range' (stN o) (b - stN o)).map fun i => o ++ [i])).length ≤ sizeLine := by simp only [chD, List.length_map, List.length_range', sizeLine_eq]; omega
  have hl2 : (chD l).length + (chD ((List.range' (stN o) (b - stN o)).map fun i => o ++ [i])).length ≤ sizeLine := by simp only [chD, List.length_map, List.length_range', sizeLine_eq]; simp only [lim] at hl; omega
  have e4 : chD (l ++ (List.range' (stN o) (b - stN o)).map fun i => o ++ [i]) = chD l ++ chD ((List.range' (stN o) (b - stN o)).map fun i => o ++ [i]) := by simp [chD]
  refine ⟨_, rfl, ?_⟩
  rw [e4]
  generalize chD ((List.range' (stN o) (b - stN o)).map fun i => o ++ [i]) = cc at *
  simp [hd, e1, e2, hl1, hl2]
theorem law_choices_eq {b m : Nat} (hb : b ≤ 6) (hm : m ≤ 4) : sem_law_choices [.fz (.int b), .fz (.int m)] = some (.ow (.lst (chD (chs b m))), [.fz (.int b), .fz (.int m)]) := by
  have hlen : ∀ k ≤ 4, (chs b k).length ≤ 1296 := fun k hk => by
    have h := chs_len b k
    have h2 : b ^ k ≤ 6 ^ 4 := Nat.le_trans (Nat.pow_le_pow_left hb k) (Nat.pow_le_pow_right (by omega) hk)
    omega
  obtain ⟨sd', e1, f, t3, t5, hf, e2⟩ := forL_ix (b := bName 3) (body := dSeq (dSet 4 (dLst dNil)) (dSeq (dFor (dWSeq (dVar 2)) (bName 5) chT) (dSet 2 (dTake 4))))
    (fun k sd => ∃ f t3 t5, DV.d f = .lst (chD (chs b k)) ∧ sd = [some (.fz (.int b)), some (.fz (.int m)), some f, t3, none, t5, none] ∧ f = .ow f.d) (intsD (List.range m)) [some (.fz (.int b)), some (.fz (.int m)), some (.ow (.lst (chD (chs b 0)))), none, none, none, none] (by
      rintro k x sd hx ⟨f, t3, t5, hf, rfl, hf2⟩
      obtain ⟨hk, rfl⟩ := intsD_range_get hx
      have loop : ∀ (L l : List (List Nat)) (t5 : Option DV), (∀ o ∈ L, o ∈ chs b k) → (l ++ L.flatMap fun o => (List.range' (stN o) (b - stN o)).map fun i => o ++ [i]).length ≤ lim →
          ∃ t5', dForL (bName 5) chT (chD L) [some (.fz (.int b)), some (.fz (.int m)), some (.fz f.d), some (.fz (.int k)), some (.ow (.lst (chD l))), t5, none] = some (.nx, [some (.fz (.int b)), some (.fz (.int m)), some (.fz f.d), some (.fz (.int k)), some (.ow (.lst (chD (l ++ L.flatMap fun o => (List.range' (stN o) (b - stN o)).map fun i => o ++ [i])))), t5', none]) := by
        intro L
        induction L with
        | nil => intro l t5 _ _; exact ⟨t5, by simp [chD]⟩
        | cons o L ih =>
          intro l t5 hL hl
          rw [List.flatMap_cons, ← List.append_assoc] at hl ⊢
          have hl' : l.length + (b - stN o) ≤ lim := by
            simp only [List.length_append, List.length_map, List.length_range'] at hl; omega
          obtain ⟨s1, h1, h2⟩ := ch_one (m := m) (hL o (List.mem_cons_self ..)) (by omega) (by omega) (.fz f.d) (.fz (.int k)) l hl' t5
          obtain ⟨t5', h3⟩ := ih _ (some (.fz (NLD o))) (fun o' h' => hL o' (List.mem_cons_of_mem _ h')) hl
          exact ⟨t5', by
            show dForL _ _ (NLD o :: chD L) _ = _
            simp only [dForL, h1, Option.bind_some, h2]; exact h3⟩
      obtain ⟨t5', h1⟩ := loop (chs b k) [] t5 (fun _ h => h) (by
        rw [List.nil_append, ← chs_succ]; have := hlen (k + 1) (by omega); simp only [lim]; omega)
      rw [List.nil_append, ← chs_succ] at h1
      refine ⟨_, _, rfl, ?_, .ow (.lst (chD (chs b (k + 1)))), some (.fz (.int k)), t5', rfl, rfl, rfl⟩
      have e0 : chD [] = [] := rfl
      rw [e0] at h1
      rw [hf] at h1
      rw [hf2, hf]
      simp [h1]) ⟨_, _, _, rfl, rfl, rfl⟩
  rw [intsD_len, List.length_range] at hf
  obtain ⟨e2, hf2⟩ := e2
  rw [hf2, hf] at e2
  have hd : dWR1 (dVar 1) [some (.fz (.int b)), some (.fz (.int m)), some (.ow (.lst (chD (chs b 0)))), none, none, none, none] = some (intsD (List.range m), _) := dWR1_nat rfl (by omega)
  have h1 : 1 ≤ sizeLine := by rw [sizeLine_eq]; omega
  have e0 : ([.lst []] : List D) = chD (chs b 0) := rfl
  have e3 : (chD (chs b 0)).length ≤ sizeLine := h1
  generalize chD (chs b 0) = c0 at *
  simp [sem_law_choices, semOf_s, t_law_choices, List.replicate, e0, e3, hd, e1, e2, wbs]
end K25
end

section
set_option Elab.async false
set_option linter.all false
set_option maxRecDepth 100000
set_option maxHeartbeats 1000000
namespace K25
open PySem DS L2
theorem flat_ints (o : List Nat) : (intsD o).all isFlat = true := by
  unfold intsD; rw [List.all_map]; exact List.all_eq_true.mpr fun _ _ => rfl
theorem any_ints (p : Nat) : ∀ o : List Nat, ((intsD o).any fun y => eqF y (.int (p : Int))) = o.contains p
  | [] => rfl
  | i :: o => by
    have ih := any_ints p o
    simp only [intsD, List.map_cons, List.any_cons, List.contains_cons] at ih ⊢
    rw [ih]
    congr 1
    show ((i : Int) == (p : Int)) = (p == i)
    rw [Bool.eq_iff_iff]; simp; omega
theorem inD_ints (neg : Bool) (p : Nat) (o : List Nat) : inD neg (.int (p : Int)) (NLD o) = some (.bl (xor neg (o.contains p))) := by
  simp only [inD, inL, flat_ints]
  rw [if_pos ⟨rfl, trivial⟩, any_ints]; rfl
theorem idx_ints (p : Nat) : ∀ o : List Nat, p ∈ o → ((intsD o).findIdx? fun y => eqF y (.int (p : Int))) = some (o.idxOf p)
  | [], h => by cases h
  | i :: o, h => by
    show List.findIdx? _ (D.int (i : Int) :: intsD o) = _
    rw [List.findIdx?_cons, List.idxOf_cons]
    have e : eqF (.int (i : Int)) (.int (p : Int)) = (i == p) := by
      show ((i : Int) == (p : Int)) = (i == p)
      rw [Bool.eq_iff_iff]; simp; omega
    rw [e]
    by_cases hi : i = p
    · subst hi; simp
    · have h' : p ∈ o := by
        rcases List.mem_cons.mp h with rfl | h
        · exact absurd rfl hi
        · exact h
      have e2 : (i == p) = false := by simpa using hi
      rw [e2, idx_ints p o h']; rfl
theorem idxD_ints {p : Nat} {o : List Nat} (h : p ∈ o) : idxD (NLD o) (.int (p : Int)) = some (.int (o.idxOf p : Nat)) := by
  simp only [idxD, flat_ints]
  rw [if_pos ⟨rfl, trivial⟩, idx_ints p o h]; rfl
def real (u v : Wrd) : Org → Ltr
  | (0, 0) => []
  | (i + 1, 0) => (u[i]?).getD []
  | (0, j + 1) => (v[j]?).getD []
  | (i + 1, j + 1) => addL ((u[i]?).getD []) ((v[j]?).getD [])
theorem item_W {u : Wrd} {i : Nat} (h : i < u.length) : itemD (WdD u) (.int (i : Int)) = some (LtD ((u[i]?).getD [])) := by
  refine item_nat_t ?_
  rw [List.getElem?_map, List.getElem?_eq_getElem h]; rfl
theorem law_at_eq {u v : Wrd} {near far : List Nat} {p : Nat} (hn : near.length = u.length) (hf : far.length = v.length) (hul : ∀ a ∈ u, a.length ≤ 100) (hc : (near.contains p || far.contains p) = true) :
    sem_law_at [.fz (WdD u), .fz (NLD near), .fz (NLD far), .fz (WdD v), .fz (.int p)] = some (.fz (LtD (real u v (orgAt near far p))), [.fz (WdD u), .fz (NLD near), .fz (NLD far), .fz (WdD v), .fz (.int p)]) := by
  by_cases h2 : p ∈ far
  · have k2 : far.idxOf p < v.length := by rw [← hf]; exact List.idxOf_lt_length_of_mem h2
    by_cases h1 : p ∈ near
    · have k1 : near.idxOf p < u.length := by rw [← hn]; exact List.idxOf_lt_length_of_mem h1
      have eo : real u v (orgAt near far p) = addL ((u[near.idxOf p]?).getD []) ((v[far.idxOf p]?).getD []) := by
        simp [orgAt, h1, h2, orgAB, real]
      rw [eo]
      have hm : ((u[near.idxOf p]?).getD []) ∈ u := by rw [List.getElem?_eq_getElem k1]; exact List.getElem_mem k1
      have i1 := item_W k1
      have i2 := item_W k2
      generalize (u[near.idxOf p]?).getD [] = a at *
      generalize (v[far.idxOf p]?).getD [] = b at *
      obtain ⟨sd', e1, e2⟩ := lcL_map (b := bTup 2 (bCons (bName 5) (bCons (bName 6) bNil))) (tt := dYes) (te := dBin addD (dVar 5) (dVar 6)) (vs := [5, 6]) (fun sd => wipeD sd [5, 6] = [some (.fz (WdD u)), some (.fz (NLD near)), some (.fz (NLD far)), some (.fz (WdD v)), some (.fz (.int p)), none, none])
        sumP ((a.zip b).map fun p => D.tup [.int p.1, .int p.2]) [some (.fz (WdD u)), some (.fz (NLD near)), some (.fz (NLD far)), some (.fz (WdD v)), some (.fz (.int p)), none, none] (by
          intro x hx sd hsd
          obtain ⟨q, _, rfl⟩ := List.mem_map.mp hx
          rw [hsd]
          exact ⟨_, _, _, rfl, rfl, rfl, rfl⟩) rfl
      rw [sumP_zip, ← zipL_ints] at e1
      have hz : (addL a b).length ≤ sizeLine := by
        have : (addL a b).length ≤ a.length := by unfold addL; rw [List.length_zipWith]; omega
        have := hul a hm
        rw [sizeLine_eq]; omega
      have hzp : ∀ s : DEnv, kZip2 (LtD a) (some (LtD b, s)) = some (zipL (a.map .int) (b.map .int), s) := fun _ => rfl
      have tb : tupleB [.lst ((addL a b).map .int)] = some (.fz (LtD (addL a b))) := rfl
      simp [sem_law_at, semOf_s, t_law_at, List.replicate, inD_ints, h1, h2, idxD_ints h1, idxD_ints h2, i1, i2, hzp, e1, e2, hz, tb, wbs]
    · have eo : real u v (orgAt near far p) = (v[far.idxOf p]?).getD [] := by simp [orgAt, h1, h2, orgB, real]
      rw [eo]
      have i2 := item_W k2
      generalize (v[far.idxOf p]?).getD [] = b at *
      simp [sem_law_at, semOf_s, t_law_at, List.replicate, inD_ints, h1, h2, idxD_ints h2, i2, wbs]
  · have h1 : p ∈ near := by simpa [h2] using hc
    have k1 : near.idxOf p < u.length := by rw [← hn]; exact List.idxOf_lt_length_of_mem h1
    have eo : real u v (orgAt near far p) = (u[near.idxOf p]?).getD [] := by simp [orgAt, h2, orgA, real]
    rw [eo]
    have i1 := item_W k1
    generalize (u[near.idxOf p]?).getD [] = b at *
    simp [sem_law_at, semOf_s, t_law_at, List.replicate, inD_ints, h1, h2, idxD_ints h1, i1, wbs]
theorem boolsD {α : Type} (f : α → Bool) : ∀ l : List α, bools (l.map fun p => D.bl (f p)) = some (l.map f)
  | [] => rfl
  | x :: l => by simp [bools, boolsD f l]
theorem allB_map {α : Type} (f : α → Bool) (l : List α) : allB [.lst (l.map fun p => D.bl (f p))] = some (.fz (.bl (l.all f))) := by
  simp [allB, boolsD, List.all_map]
end K25
end

section
set_option Elab.async false
set_option linter.all false
set_option maxRecDepth 100000
set_option maxHeartbeats 1000000
namespace K25
open PySem DS L2
theorem real_idx {w : Wrd} : (List.range w.length).map (fun i => (w[i]?).getD []) = w := by
  apply List.ext_getElem?
  intro i
  rw [List.getElem?_map]
  rcases Nat.lt_or_ge i w.length with h | h
  · simp [List.getElem?_range h, h]
  · rw [List.getElem?_eq_none (by rw [List.length_range]; exact h), List.getElem?_eq_none h]; rfl
theorem lays_real {u v : Wrd} (hu : u.length ≤ 4) (hv : v.length ≤ 2) : ((lays u.length v.length).map (List.map (real u v))).Perm (QL u v) := by
  have p := (lay_perm hu hv).map (List.map (real u v))
  rw [Q3_map] at p
  refine p.trans (List.Perm.of_eq ?_)
  have e := Q3_pre (fa := id) (fb := id) (fab := addL) (fun i => (u[i]?).getD []) (fun i => (v[i]?).getD []) (List.range u.length) (List.range v.length)
  rw [real_idx, real_idx] at e
  rw [QL, Qs_Q3, e]; rfl
def covB (many : Nat) (near far : List Nat) : Bool := (List.range many).all fun p => near.contains p || far.contains p
def wordOf (u v : Wrd) (many : Nat) (near far : List Nat) : Wrd := (List.range many).map fun p => real u v (orgAt near far p)
def chFar (u v : Wrd) (many : Nat) (near far : List Nat) : List Wrd := if covB many near far = true then [wordOf u v many near far] else []
def chNear (u v : Wrd) (many : Nat) (near : List Nat) : List Wrd := (chs many v.length).flatMap (chFar u v many near)
def chMany (u v : Wrd) (many : Nat) : List Wrd := (chs many u.length).flatMap (chNear u v many)
def rgMany (u v : Wrd) : List Nat := List.range' (max u.length v.length) (u.length + v.length + 1 - max u.length v.length)
theorem lays_chunks (u v : Wrd) : (lays u.length v.length).map (List.map (real u v)) = (rgMany u v).flatMap (chMany u v) := by
  unfold lays rgMany
  rw [List.map_flatMap]
  congr 1; funext many
  rw [List.map_flatMap]
  unfold chMany
  congr 1; funext near
  rw [List.map_flatMap]
  unfold chNear
  congr 1; funext far
  unfold chFar covB wordOf
  split <;> simp [List.map_map, Function.comp_def]
abbrev lacT : TM := (dIfS (dTst (ice (dBI allB (aVal (dLc (dWR1 (dVar 3)) (bName 7) dYes (dOrV (dBinS (inD false) (dVar 7) 4) (dBinS (inD false) (dVar 7) 5)) [7]) aNil)))) (dSeq (dSet 6 (dBI tupleB (aVal (dLc (dWR1 (dVar 3)) (bName 7) dYes (ice (dCall sem_law_at (aSlot 0 (aSlot 4 (aSlot 5 (aSlot 1 (aSlot 7 aNil))))))) [7]) aNil)))
    (dAsgG (dBin addD (dGet 2 (dVar 6) (dC (.int 0))) (dC (.int 1))) (bSub 2 (dVar 6)))) dNext)
abbrev lacE (u v : Wrd) (rs : Cnt Wrd) (t3 t4 t5 t6 : Option DV) : DEnv := [some (.fz (WdD u)), some (.fz (WdD v)), some (.ow (.dct (encP kW rs))), t3, t4, t5, t6, none]
theorem lac_far {u v : Wrd} (hul : ∀ a ∈ u, a.length ≤ 100) {many : Nat} {near far : List Nat} (hm : many ≤ 100) (hn : near.length = u.length) (hf : far.length = v.length) (rs : Cnt Wrd) (M : List Wrd) (hb : Bag rs M) (hl : M.length + (chFar u v many near far).length ≤ lim) (t5 t6 : Option DV) :
    ∃ s1 s2 rs', bName 5 (NLD far) (lacE u v rs (some (.fz (.int many))) (some (.fz (NLD near))) t5 t6) = some s1 ∧ lacT s1 = some (.nx, s2) ∧ (∃ t5 t6, s2 = lacE u v rs' (some (.fz (.int many))) (some (.fz (NLD near))) t5 t6) ∧ Bag rs' (M ++ chFar u v many near far) := by
  obtain ⟨sd', e1, e1'⟩ := lcL_pure (b := bName 7) (tt := dYes) (te := dOrV (dBinS (inD false) (dVar 7) 4) (dBinS (inD false) (dVar 7) 5)) (vs := [7]) (lacE u v rs (some (.fz (.int many))) (some (.fz (NLD near))) (some (.fz (NLD far))) t6) (fun x => [some (.fz (WdD u)), some (.fz (WdD v)), some (.ow (.dct (encP kW rs))), some (.fz (.int many)), some (.fz (NLD near)), some (.fz (NLD far)), t6, some (.fz x)])
    (fun x => match x with | .int i => .bl (near.contains i.toNat || far.contains i.toNat) | _ => .non) (xs := intsD (List.range many)) (sd := lacE u v rs (some (.fz (.int many))) (some (.fz (NLD near))) (some (.fz (NLD far))) t6) (by
      intro x hx
      obtain ⟨i, hi, rfl⟩ := List.mem_map.mp hx
      refine ⟨rfl, rfl, ?_, rfl⟩
      by_cases h : i ∈ near
      · simp [inD_ints, h]
      · simp [inD_ints, h]) rfl
  have e3 : (intsD (List.range many)).map (fun x => match x with | D.int i => D.bl (near.contains i.toNat || far.contains i.toNat) | _ => .non) = (List.range many).map fun p => D.bl (near.contains p || far.contains p) := by
    unfold intsD; rw [List.map_map]; apply List.map_congr_left; intro j _; simp
  rw [e3] at e1
  have ea := allB_map (fun p => near.contains p || far.contains p) (List.range many)
  have hd : dWR1 (dVar 3) (lacE u v rs (some (.fz (.int many))) (some (.fz (NLD near))) (some (.fz (NLD far))) t6) = some (intsD (List.range many), (lacE u v rs (some (.fz (.int many))) (some (.fz (NLD near))) (some (.fz (NLD far))) t6)) := dWR1_nat rfl (by omega)
  have hz : ((List.range many).map fun p => D.bl (near.contains p || far.contains p)).length ≤ sizeLine := by rw [List.length_map, List.length_range, sizeLine_eq]; omega
  rcases hc : covB many near far with _ | _
  · have ec : ((List.range many).all fun p => near.contains p || far.contains p) = false := hc
    rw [ec] at ea
    have ech : chFar u v many near far = [] := by rw [chFar, hc]; rfl
    refine ⟨_, lacE u v rs (some (.fz (.int many))) (some (.fz (NLD near))) (some (.fz (NLD far))) t6, rs, rfl, ?_, ⟨_, _, rfl⟩, by rw [ech, List.append_nil]; exact hb⟩
    generalize ((List.range many).map fun p => D.bl (near.contains p || far.contains p)) = bl at *
    simp only [lacE] at hd e1 e1'
    simp [hd, e1, e1', hz, ea]
  · have ec : ((List.range many).all fun p => near.contains p || far.contains p) = true := hc
    rw [ec] at ea
    have ech : chFar u v many near far = [wordOf u v many near far] := by rw [chFar, hc]; rfl
    obtain ⟨sd2, f1, f1'⟩ := lcL_pure (b := bName 7) (tt := dYes) (te := ice (dCall sem_law_at (aSlot 0 (aSlot 4 (aSlot 5 (aSlot 1 (aSlot 7 aNil))))))) (vs := [7]) (lacE u v rs (some (.fz (.int many))) (some (.fz (NLD near))) (some (.fz (NLD far))) t6) (fun x => [some (.fz (WdD u)), some (.fz (WdD v)), some (.ow (.dct (encP kW rs))), some (.fz (.int many)), some (.fz (NLD near)), some (.fz (NLD far)), t6, some (.fz x)])
      (fun x => match x with | .int i => LtD (real u v (orgAt near far i.toNat)) | _ => .non) (xs := intsD (List.range many)) (sd := lacE u v rs (some (.fz (.int many))) (some (.fz (NLD near))) (some (.fz (NLD far))) t6) (by
        intro x hx
        obtain ⟨i, hi, rfl⟩ := List.mem_map.mp hx
        refine ⟨rfl, rfl, ?_, rfl⟩
        have := List.all_eq_true.mp ec i hi
        simp [slotsOf, law_at_eq hn hf hul this, backTo']) rfl
    have f3 : (intsD (List.range many)).map (fun x => match x with | D.int i => LtD (real u v (orgAt near far i.toNat)) | _ => .non) = (wordOf u v many near far).map LtD := by
      unfold intsD wordOf; rw [List.map_map, List.map_map]; apply List.map_congr_left; intro j _; simp
    rw [f3] at f1
    have hz2 : ((wordOf u v many near far).map LtD).length ≤ sizeLine := by unfold wordOf; rw [List.length_map, List.length_map, List.length_range, sizeLine_eq]; omega
    have tb : tupleB [.lst ((wordOf u v many near far).map LtD)] = some (.fz (WdD (wordOf u v many near far))) := rfl
    have hl' : rs.length < sizeLine := by
      have := hb.len
      rw [ech] at hl
      rw [sizeLine_eq]; simp only [lim, List.length_singleton] at hl; omega
    refine ⟨_, lacE u v (addN rs (wordOf u v many near far) 1) (some (.fz (.int many))) (some (.fz (NLD near))) (some (.fz (NLD far))) (some (.fz (WdD (wordOf u v many near far)))), addN rs (wordOf u v many near far) 1, rfl, ?_, ⟨_, _, rfl⟩, by rw [ech]; exact hb.add (by omega)⟩
    have s1 := set_W (w := wordOf u v many near far) (n := 1) hl'
    generalize ((List.range many).map fun p => D.bl (near.contains p || far.contains p)) = bl at *
    generalize wordOf u v many near far = wd at *
    simp only [lacE] at hd e1 e1' f1 f1'
    rw [Int.natCast_one] at s1
    rw [List.length_map] at hz2
    simp [hd, e1, e1', hz, ea, f1, f1', hz2, tb, get_W, addD_ii, s1, isDct]
end K25
end

section
set_option Elab.async false
set_option linter.all false
set_option maxRecDepth 100000
set_option maxHeartbeats 1000000
namespace K25
open PySem DS L2
theorem law_laced_eq {u v : Wrd} (hu : u.length ≤ 4) (hv : v.length ≤ 2) (hul : ∀ a ∈ u, a.length ≤ 100) : ∃ ps, sem_law_laced [.fz (WdD u), .fz (WdD v)] = some (.ow (.dct (encP kW ps)), [.fz (WdD u), .fz (WdD v)]) ∧ Bag ps (QL u v) := by
  have hlen : ((rgMany u v).flatMap (chMany u v)).length ≤ 321 := by
    rw [← lays_chunks, (lays_real hu hv).length_eq]; exact QL_len hu (by omega)
  have hrg : ∀ many ∈ rgMany u v, many ≤ 6 := fun many h => by
    have := List.mem_range'_1.mp h; omega
  have hfl : ∀ (s : DEnv) (L : List (List Nat)), kWSeq (some (.lst (chD L), s)) = some (chD L, s) := fun _ _ => rfl
  obtain ⟨ps, sd', e1, ⟨t3, t4, t5, t6, e2⟩, hb⟩ := forL_bag (b := bName 3) (body := dFor (dWSeq (ice (dCall sem_law_choices (aSlot 3 (aVal (dBI lenB (aSlot 0 aNil)) aNil))))) (bName 4) (dFor (dWSeq (ice (dCall sem_law_choices (aSlot 3 (aVal (dBI lenB (aSlot 1 aNil)) aNil))))) (bName 5) lacT))
    (fun (i : Nat) => D.int (i : Int)) (chMany u v) (fun rs sd => ∃ t3 t4 t5 t6, sd = lacE u v rs t3 t4 t5 t6) lim (rgMany u v) (by
      rintro many hm rs M sd hb hl ⟨t3, t4, t5, t6, rfl⟩
      have hm6 := hrg many hm
      obtain ⟨rs', sd', e1, ⟨t4', t5', t6', e2⟩, hb'⟩ := forL_bag (b := bName 4) (body := dFor (dWSeq (ice (dCall sem_law_choices (aSlot 3 (aVal (dBI lenB (aSlot 1 aNil)) aNil))))) (bName 5) lacT)
        NLD (chNear u v many) (fun rs sd => ∃ t4 t5 t6, sd = lacE u v rs (some (.fz (.int many))) t4 t5 t6) lim (chs many u.length) (by
          rintro near hn rs M sd hb hl ⟨t4, t5, t6, rfl⟩
          obtain ⟨rs', sd', e1, ⟨t5', t6', e2⟩, hb'⟩ := forL_bag (b := bName 5) (body := lacT) NLD (chFar u v many near) (fun rs sd => ∃ t5 t6, sd = lacE u v rs (some (.fz (.int many))) (some (.fz (NLD near))) t5 t6) lim (chs many v.length) (by
            rintro far hf rs M sd hb hl ⟨t5, t6, rfl⟩
            exact lac_far hul (by omega) (chs_mem_lt _ _ _ hn).1 (chs_mem_lt _ _ _ hf).1 rs M hb hl t5 t6) rs M (lacE u v rs (some (.fz (.int many))) (some (.fz (NLD near))) t5 t6) hb ⟨_, _, rfl⟩ hl
          refine ⟨_, sd', rs', rfl, ?_, ⟨_, _, _, e2⟩, hb'⟩
          have hc := law_choices_eq (b := many) (m := v.length) hm6 (by omega)
          have e3 : (chs many v.length).map NLD = chD (chs many v.length) := rfl
          rw [e3] at e1
          simp only [lacE] at e1
          simp [slotsOf, lenB_W, hc, backTo', hfl, e1]) rs M (lacE u v rs (some (.fz (.int many))) t4 t5 t6) hb ⟨_, _, _, rfl⟩ hl
      refine ⟨_, sd', rs', rfl, ?_, ⟨_, _, _, _, e2⟩, hb'⟩
      have hc := law_choices_eq (b := many) (m := u.length) hm6 (by omega)
      have e3 : (chs many u.length).map NLD = chD (chs many u.length) := rfl
      rw [e3] at e1
      simp only [lacE] at e1
      simp [slotsOf, lenB_W, hc, backTo', hfl, e1]) [] [] (lacE u v [] none none none none) .nil ⟨_, _, _, _, rfl⟩ (by simp only [List.length_nil, lim]; omega)
  rw [List.nil_append, ← lays_chunks] at hb
  refine ⟨ps, ?_, hb.perm (lays_real hu hv)⟩
  have hmax : (if u.length < v.length then (v.length : Int) else (u.length : Int)) = ((max u.length v.length : Nat) : Int) := by
    rcases Nat.lt_or_ge u.length v.length with h | h
    · rw [if_pos h, Nat.max_eq_right (by omega)]
    · rw [if_neg (by omega), Nat.max_eq_left h]
  have hd : dWR2 (ice (dBI maxB (aVal (dBI lenB (aSlot 0 aNil)) (aVal (dBI lenB (aSlot 1 aNil)) aNil)))) (dBin addD (dBin addD (ice (dBI lenB (aSlot 0 aNil))) (ice (dBI lenB (aSlot 1 aNil)))) (dC (.int 1))) (lacE u v [] none none none none) = some (intsD (rgMany u v), lacE u v [] none none none none) := by
    refine dWR2_nat (m := max u.length v.length) (n := u.length + v.length + 1) (sd1 := lacE u v [] none none none none) ?_ ?_ (by omega) (by omega)
    · simp [lenB_W, maxB_ii]
      exact hmax
    · simp [lenB_W, addD_ii]
  have e0 : encP kW [] = [] := rfl
  have e3 : (rgMany u v).map (fun (i : Nat) => D.int (i : Int)) = intsD (rgMany u v) := rfl
  rw [e3] at e1
  simp only [lacE, e0] at hd e1 e2
  simp [sem_law_laced, semOf_s, t_law_laced, List.replicate, hd, e1, e2, wbs]
/-! ### one more word -/
theorem law_put_eq {α : Type} [DecidableEq α] {E : KE α} {rs : Cnt α} {M : List α} {x : α} {n : Nat} (hb : Bag rs M) (hn : 0 < n) (hl : M.length ≤ lim) : sem_law_put [.ow (.dct (encP E rs)), .fz (E.enc x), .fz (.int n)] = some (.fz .non, [.ow (.dct (encP E (addN rs x n))), .fz (E.enc x), .fz (.int n)]) ∧ Bag (addN rs x n) (M ++ List.replicate n x) := by
  refine ⟨?_, hb.add hn⟩
  have g : getB (.dct (encP E rs)) (E.enc x) (.int 0) = some (.int (getN rs x)) := encP_get
  have h : rs.length < sizeLine := by have := hb.len; rw [sizeLine_eq]; simp only [lim] at hl; omega
  have e2 : dput (encP E rs) (E.key x) (E.enc x) (.int ((getN rs x : Int) + n)) = encP E (addN rs x n) := encP_put
  have s : setD (.dct (encP E rs)) (E.enc x) (.int ((getN rs x : Int) + n)) = some (.dct (encP E (addN rs x n))) := by
    simp only [setD, E.ok x, Option.bind_some, encP_len, if_pos h, e2]
  simp [sem_law_put, semOf_s, t_law_put, isDct, g, addD_ii, s, wbs]
end K25
end

section
set_option Elab.async false
set_option linter.all false
set_option maxRecDepth 100000
set_option maxHeartbeats 1000000
namespace K25
open PySem DS L2
theorem sumOf_replicate {β : Type} (φ : β → Nat) (n : Nat) (x : β) : sumOf φ (List.replicate n x) = n * φ x := by
  induction n with
  | zero => simp [sumOf]
  | succ n ih => rw [List.replicate_succ, sumOf_cons, ih, Nat.add_mul, Nat.one_mul, Nat.add_comm]
theorem sumOf_reps {β : Type} (φ : β → Nat) (k : Nat) (L : List β) : sumOf φ (List.replicate k L).flatten = k * sumOf φ L := by
  induction k with
  | zero => simp [sumOf]
  | succ n ih => rw [List.replicate_succ, List.flatten_cons, sumOf_append, ih, Nat.add_mul, Nat.one_mul, Nat.add_comm]
theorem sumOf_mul {β : Type} (φ : β → Nat) (k : Nat) (L : List β) : sumOf (fun x => k * φ x) L = k * sumOf φ L := by
  induction L with
  | nil => simp [sumOf]
  | cons x L ih => rw [sumOf_cons, sumOf_cons, ih, Nat.mul_add]
theorem Bag.times {α : Type} [DecidableEq α] {qs : Cnt α} {M : List α} (h : Bag qs M) (k : Nat) : (qs.flatMap fun q => List.replicate (k * q.2) q.1).Perm (List.replicate k M).flatten := perm_of_sumOf fun φ => by
  rw [sumOf_reps, sumOf_perm φ h.flat, sumOf_flatMap]
  unfold flatN
  rw [sumOf_flatMap, ← sumOf_mul]
  congr 1; funext q
  rw [sumOf_replicate, sumOf_replicate, Nat.mul_assoc]
theorem mulD_nn {a b : Nat} (ha : a ≤ lim) (hb : b ≤ lim) : mulD (.int (a : Int)) (.int (b : Int)) = some (.int ((a * b : Nat) : Int)) := by
  simp only [lim] at ha hb
  rw [mulD_b (by omega) (by omega) (by omega) (by omega), Int.natCast_mul]
abbrev ItG : BG := bTup 2 (bCons (bName 7) (bCons (bName 8) bNil))
theorem further_in {r2 r3 : DV} {c : Nat} {w one : Wrd} {often : Nat} (ho : 0 < often) (hol : often ≤ lim) {qs : Cnt Wrd} {N : List Wrd} (hq : Bag qs N) (hN : N.length ≤ 1000) (r1 : DV) (rs : Cnt Wrd) (M : List Wrd) (hb : Bag rs M) (hl : M.length + (List.replicate often N).flatten.length ≤ lim) (t7 t8 : Option DV) :
    ∃ rs' y7 y8, dForL ItG (dExp (ice (dCall sem_law_put (aSlot 4 (aSlot 7 (aVal (ofF (dBin mulD (dVar 6) (dVar 8))) aNil)))))) (qs.map ItD) [some (.fz (.int c)), some r1, some r2, some r3, some (.ow (.dct (encP kW rs))), some (.fz (WdD one)), some (.fz (.int often)), t7, t8] = some (.nx, [some (.fz (.int c)), some r1, some r2, some r3, some (.ow (.dct (encP kW rs'))), some (.fz (WdD one)), some (.fz (.int often)), y7, y8]) ∧ Bag rs' (M ++ (List.replicate often N).flatten) := by
  have p := Bag.times hq often
  obtain ⟨rs', sd', e1, ⟨t7', t8', rfl⟩, hb'⟩ := forL_bag (b := ItG) (body := dExp (ice (dCall sem_law_put (aSlot 4 (aSlot 7 (aVal (ofF (dBin mulD (dVar 6) (dVar 8))) aNil)))))) ItD (fun q => List.replicate (often * q.2) q.1)
    (fun rs sd => ∃ t7 t8, sd = [some (.fz (.int c)), some r1, some r2, some r3, some (.ow (.dct (encP kW rs))), some (.fz (WdD one)), some (.fz (.int often)), t7, t8]) lim qs (by
      rintro ⟨told, more⟩ hx rs M sd hb hl ⟨t7, t8, rfl⟩
      have hm := hq.mem hx
      simp only at hm
      obtain ⟨e1, e2⟩ := law_put_eq (E := kW) (x := told) (n := often * more) hb (Nat.mul_pos ho hm.2.1) (by omega)
      have e3 := mulD_nn (a := often) (b := more) hol (by simp only [lim]; omega)
      refine ⟨_, [some (.fz (.int c)), some r1, some r2, some r3, some (.ow (.dct (encP kW (addN rs told (often * more))))), some (.fz (WdD one)), some (.fz (.int often)), some (.fz (WdD told)), some (.fz (.int more))], _, rfl, ?_, ⟨_, _, rfl⟩, e2⟩
      have ek : ∀ w : Wrd, kW.enc w = WdD w := fun _ => rfl
      rw [ek] at e1
      generalize often * more = om at *
      simp [slotsOf, e3, e1, backTo']) rs M _ hb ⟨t7, t8, rfl⟩ (by rw [p.length_eq]; exact hl)
  exact ⟨rs', t7', t8', e1, hb'.perm (List.Perm.append_left _ p)⟩
theorem law_further_eq {c : Nat} {r : DV} {ps : Cnt Wrd} {m : List Wrd} {w : Wrd} (own : Bool) (hc : c ≤ 3) (hr : r.d = .lst (ps.map ItD)) (hb : Bag ps m) (hm : m.length ≤ 300) (hmw : ∀ x ∈ m, WOk c x ∧ x.length ≤ 4) (hw : WOk c w) (hwl : w.length ≤ 2) :
    ∃ qs, sem_law_further [.fz (.int c), r, .fz (WdD w), .fz (.bl own)] = some (.ow (.dct (encP kW qs)), [.fz (.int c), .fz r.d, .fz (WdD w), .fz (.bl own)]) ∧ Bag qs (m.flatMap fun x => QL x w) := by
  have p := hb.sum fun x => QL x w
  have hlen : (m.flatMap fun x => QL x w).length ≤ lim := by
    rw [List.length_flatMap]
    have : ∀ L : List Wrd, (∀ x ∈ L, x.length ≤ 4) → (L.map fun x => (QL x w).length).sum ≤ L.length * 321 := by
      intro L
      induction L with
      | nil => simp
      | cons x L ih =>
        intro h
        have h1 := ih fun y hy => h y (List.mem_cons_of_mem _ hy)
        have h2 := QL_len (h x (List.mem_cons_self ..)) (show w.length ≤ 4 by omega)
        simp only [List.map_cons, List.sum_cons, List.length_cons]
        omega
    have h := this m fun x hx => (hmw x hx).2
    simp only [lim]; omega
  obtain ⟨qs, sd', e1, ⟨t5, t6, t7, t8, e2⟩, hq⟩ := forL_bag (b := bTup 2 (bCons (bName 5) (bCons (bName 6) bNil))) (body := dFor (dWSeq (dIf (dTst (dVar 3)) (ice (dIts some (ice (dCall sem_law_laced (aSlot 5 (aSlot 2 aNil)))))) (ice (dCall sem_lacings (aSlot 0 (aSlot 5 (aSlot 2 aNil))))))) ItG
      (dExp (ice (dCall sem_law_put (aSlot 4 (aSlot 7 (aVal (ofF (dBin mulD (dVar 6) (dVar 8))) aNil)))))))
    ItD (fun p => (List.replicate p.2 (QL p.1 w)).flatten) (fun rs sd => ∃ t5 t6 t7 t8, sd = [some (.fz (.int c)), some (.fz r.d), some (.fz (WdD w)), some (.fz (.bl own)), some (.ow (.dct (encP kW rs))), t5, t6, t7, t8]) lim ps (by
      rintro ⟨one, often⟩ hx rs M sd hbr hl ⟨t5, t6, t7, t8, rfl⟩
      have hxm := hb.mem hx
      obtain ⟨h1, h2⟩ := hmw one hxm.1
      have hol : often ≤ lim := by have := hxm.2.2; simp only [lim] at *; omega
      have hQ := QL_len h2 (show w.length ≤ 4 by omega)
      have hul : ∀ a ∈ one, a.length ≤ 100 := fun a ha => by have := (h1.2 a ha).1; omega
      rcases own with _ | _
      · obtain ⟨qs, eq, hq⟩ := srtW_bag (m := QL one w) (by simp only [lim]; omega)
        obtain ⟨rs', t7', t8', e1, hb'⟩ := further_in (r2 := .fz (WdD w)) (r3 := .fz (.bl false)) (c := c) (w := w) (one := one) hxm.2.1 hol hq (by omega) (.fz r.d) rs M hbr hl t7 t8
        refine ⟨_, _, rs', rfl, ?_, ⟨some (.fz (WdD one)), some (.fz (.int often)), t7', t8', rfl⟩, hb'⟩
        have el := lacings_eq hc h1 hw h2 (show w.length ≤ 4 by omega)
        rw [eq] at el
        have hfl : ∀ (s : DEnv) (L : List D), kWSeq (some (.lst L, s)) = some (L, s) := fun _ _ => rfl
        rw [← e1]
        simp [slotsOf, el, backTo', hfl]
      · obtain ⟨qs, el, hq⟩ := law_laced_eq h2 hwl hul
        obtain ⟨rs', t7', t8', e1, hb'⟩ := further_in (r2 := .fz (WdD w)) (r3 := .fz (.bl true)) (c := c) (w := w) (one := one) hxm.2.1 hol hq (by omega) (.fz r.d) rs M hbr hl t7 t8
        refine ⟨_, _, rs', rfl, ?_, ⟨some (.fz (WdD one)), some (.fz (.int often)), t7', t8', rfl⟩, hb'⟩
        have hfl : ∀ (s : DEnv) (L : List D), kWSeq (some (.lst L, s)) = some (L, s) := fun _ _ => rfl
        rw [← e1]
        simp [slotsOf, el, backTo', hfl, encP_ItD]) [] [] [some (.fz (.int c)), some (.fz r.d), some (.fz (WdD w)), some (.fz (.bl own)), some (.ow (.dct [])), none, none, none, none] .nil ⟨_, _, _, _, rfl⟩ (by rw [p.length_eq, List.length_nil]; omega)
  rw [List.nil_append] at hq
  refine ⟨qs, ?_, hq.perm p⟩
  have hfl : ∀ (s : DEnv) (L : List D), kWSeq (some (.lst L, s)) = some (L, s) := fun _ _ => rfl
  rcases r with d | d <;> (simp only [DV.d] at hr; subst hr) <;> simp only [dvd_fz, dvd_ow] at e1 e2 <;> simp [sem_law_further, semOf_s, t_law_further, List.replicate, hfl, e1, e2, wbs]
end K25
end

section
set_option Elab.async false
set_option linter.all false
set_option maxRecDepth 100000
set_option maxHeartbeats 1000000
namespace K25
open PySem DS L2
theorem seq_nx {t u : TM} {sd s : DEnv} {r : Option (Out × DEnv)} (h : t sd = some (.nx, s)) (h2 : u s = r) : dSeq t u sd = r := by
  rw [dSeq_s, h, kSeq_1]; exact h2
abbrev EN (x0 x1 x2 x3 x4 x5 x6 x7 x8 x9 x10 x11 x12 x13 x14 x15 x16 x17 x18 x19 x20 x21 : Option DV) : DEnv := [x0, x1, x2, x3, x4, x5, x6, x7, x8, x9, x10, x11, x12, x13, x14, x15, x16, x17, x18, x19, x20, x21]
theorem WB_ok {c : Nat} {B : Int} {w : Wrd} (h : WB c B w) (hB : B ≤ 8) (hl : w.length ≤ 8) : WOk c w := ⟨hl, fun a ha => ⟨(h a ha).1, fun x hx => ⟨((h a ha).2 x hx).1, by have := ((h a ha).2 x hx).2; omega⟩⟩⟩
theorem addL_ok {c : Nat} {A B : Int} {a b : Ltr} (ha : a.length = c ∧ ∀ x ∈ a, 0 ≤ x ∧ x ≤ A) (hb : b.length = c ∧ ∀ x ∈ b, 0 ≤ x ∧ x ≤ B) : (addL a b).length = c ∧ ∀ x ∈ addL a b, 0 ≤ x ∧ x ≤ A + B := by
  refine ⟨by unfold addL; rw [List.length_zipWith, ha.1, hb.1, Nat.min_self], fun x hx => ?_⟩
  unfold addL at hx
  rw [List.mem_iff_getElem?] at hx
  obtain ⟨i, hi⟩ := hx
  rw [List.getElem?_zipWith] at hi
  rcases h1 : a[i]? with _ | y <;> rcases h2 : b[i]? with _ | z <;> rw [h1, h2] at hi <;> simp at hi
  have k1 := ha.2 y (List.mem_of_getElem? h1)
  have k2 := hb.2 z (List.mem_of_getElem? h2)
  omega
theorem QL_WB {c : Nat} {A B : Int} (hA : 0 ≤ A) (hB : 0 ≤ B) {u v w : Wrd} (hu : WB c A u) (hv : WB c B v) (h : w ∈ QL u v) : WB c (A + B) w ∧ w.length ≤ u.length + v.length := by
  have k := Qs_mem addL u v w h (fun a => a.length = c ∧ ∀ x ∈ a, 0 ≤ x ∧ x ≤ A + B) (fun a ha => ⟨(hu a ha).1, fun x hx => by have := (hu a ha).2 x hx; omega⟩) (fun a ha => ⟨(hv a ha).1, fun x hx => by have := (hv a ha).2 x hx; omega⟩) (fun a ha b hb => addL_ok (hu a ha) (hv b hb))
  exact ⟨k.2, k.1⟩
theorem st1 (a b : Int) (hb : BOk b) : ∃ a' b' : Int, ∃ c : Nat, c ≤ 2 ∧ BOk b' ∧ dSet 1 (dCall sem_law_draw (aSlot 0 (aVal (ofF (dC (.int 3))) aNil))) (EN (some (potD a b)) none none none none none none none none none none none none none none none none none none none none none) = some (.nx, EN (some (potD a' b')) (some (.fz (.int c))) none none none none none none none none none none none none none none none none none none none none) := by
  obtain ⟨a', b', k, d1, d2, d3, d4, d5⟩ := law_draw_eq a b 3 hb.1 hb.2 (by omega) (by omega)
  obtain ⟨c, rfl⟩ := Int.eq_ofNat_of_zero_le d4
  refine ⟨a', b', c, by omega, ⟨d2, d3⟩, ?_⟩
  simp [slotsOf, d1, backTo']
theorem st2 (a b : Int) (c : Nat) (hb : BOk b) (hc : c ≤ 2) : ∃ a' b' : Int, ∃ u v : Wrd, u.length ≤ 2 ∧ v.length ≤ 2 ∧ WB c 2 u ∧ WB c 2 v ∧ BOk b' ∧ dPar 2 3 (aVal (dCall sem_law_word (aSlot 0 (aSlot 1 (aVal (dCall sem_law_draw (aSlot 0 (aVal (ofF (dC (.int 3))) aNil))) aNil)))) (aVal (dCall sem_law_word (aSlot 0 (aSlot 1 (aVal (dCall sem_law_draw (aSlot 0 (aVal (ofF (dC (.int 3))) aNil))) aNil)))) aNil)) (EN (some (potD a b)) (some (.fz (.int c))) none none none none none none none none none none none none none none none none none none none none) = some (.nx, EN (some (potD a' b')) (some (.fz (.int c))) (some (.fz (WdD u))) (some (.fz (WdD v))) none none none none none none none none none none none none none none none none none none) := by
  obtain ⟨a1, b1, k1, d1, d2, d3, d4, d5⟩ := law_draw_eq a b 3 hb.1 hb.2 (by omega) (by omega)
  obtain ⟨n1, rfl⟩ := Int.eq_ofNat_of_zero_le d4
  obtain ⟨a2, b2, u, w1, w2, w3, w4⟩ := law_word_eq a1 b1 c n1 ⟨d2, d3⟩ (by omega) (by omega)
  obtain ⟨a3, b3, k3, f1, f2, f3, f4, f5⟩ := law_draw_eq a2 b2 3 w2.1 w2.2 (by omega) (by omega)
  obtain ⟨n3, rfl⟩ := Int.eq_ofNat_of_zero_le f4
  obtain ⟨a4, b4, v, y1, y2, y3, y4⟩ := law_word_eq a3 b3 c n3 ⟨f2, f3⟩ (by omega) (by omega)
  refine ⟨a4, b4, u, v, by omega, by omega, w4, y4, y2, ?_⟩
  simp [slotsOf, d1, w1, f1, y1, backTo']
theorem st3 (a b : Int) (c : Nat) (hb : BOk b) (hc : c ≤ 2) (u v : Wrd) : ∃ a' b' : Int, ∃ t : Wrd, t.length ≤ 2 ∧ (u.length + v.length < 4 ∨ t.length = 1) ∧ WB c 2 t ∧ BOk b' ∧ dSet 4 (dCall sem_law_word (aSlot 0 (aSlot 1 (aVal (dIfV (dTst (dBin (ltD) (dBin addD (ice (dBI lenB (aSlot 2 aNil))) (ice (dBI lenB (aSlot 3 aNil)))) (dC (.int 4)))) (dCall sem_law_draw (aSlot 0 (aVal (ofF (dC (.int 3))) aNil))) (ofF (dC (.int 1)))) aNil)))) (EN (some (potD a b)) (some (.fz (.int c))) (some (.fz (WdD u))) (some (.fz (WdD v))) none none none none none none none none none none none none none none none none none none) = some (.nx, EN (some (potD a' b')) (some (.fz (.int c))) (some (.fz (WdD u))) (some (.fz (WdD v))) (some (.fz (WdD t))) none none none none none none none none none none none none none none none none none) := by
  by_cases h : u.length + v.length < 4
  · obtain ⟨a1, b1, k1, d1, d2, d3, d4, d5⟩ := law_draw_eq a b 3 hb.1 hb.2 (by omega) (by omega)
    obtain ⟨n1, rfl⟩ := Int.eq_ofNat_of_zero_le d4
    obtain ⟨a2, b2, t, w1, w2, w3, w4⟩ := law_word_eq a1 b1 c n1 ⟨d2, d3⟩ (by omega) (by omega)
    refine ⟨a2, b2, t, by omega, .inl h, w4, w2, ?_⟩
    have h' : (u.length : Int) + v.length < 4 := by omega
    simp [slotsOf, lenB_W, addD_ii, ltD_ii, h', d1, w1, backTo']
  · obtain ⟨a2, b2, t, w1, w2, w3, w4⟩ := law_word_eq a b c 1 hb (by omega) (by omega)
    refine ⟨a2, b2, t, by omega, .inr w3, w4, w2, ?_⟩
    have h' : ¬ (u.length : Int) + v.length < 4 := by omega
    rw [Int.natCast_one] at w1
    simp [slotsOf, lenB_W, addD_ii, ltD_ii, h', w1, backTo']
structure Sit (c : Nat) (u v t : Wrd) : Prop where
  hc : c ≤ 2
  hu : u.length ≤ 2
  hv : v.length ≤ 2
  ht : t.length ≤ 2
  sum : u.length + v.length < 4 ∨ t.length = 1
  bu : WB c 2 u
  bv : WB c 2 v
  bt : WB c 2 t
theorem st4 {c : Nat} {u v t : Wrd} (S : Sit c u v t) (p : DV) : dPar 5 6 (aVal (dCall sem_lacings (aSlot 1 (aSlot 2 (aSlot 3 aNil)))) (aVal (dCall sem_lacings (aSlot 1 (aSlot 3 (aSlot 4 aNil)))) aNil)) (EN (some p) (some (.fz (.int c))) (some (.fz (WdD u))) (some (.fz (WdD v))) (some (.fz (WdD t))) none none none none none none none none none none none none none none none none none) = some (.nx, EN (some p) (some (.fz (.int c))) (some (.fz (WdD u))) (some (.fz (WdD v))) (some (.fz (WdD t))) (some (.ow (.lst (srtW (QL u v))))) (some (.ow (.lst (srtW (QL v t))))) none none none none none none none none none none none none none none none) := by
  obtain ⟨hc, hu, hv, ht, _, bu, bv, bt⟩ := S
  have l1 := lacings_eq (c := c) (by omega) (WB_ok bu (by omega) (by omega)) (WB_ok bv (by omega) (by omega)) (by omega) (by omega)
  have l2 := lacings_eq (c := c) (by omega) (WB_ok bv (by omega) (by omega)) (WB_ok bt (by omega) (by omega)) (by omega) (by omega)
  simp [slotsOf, l1, l2, backTo']
theorem st5 {c : Nat} {u v t : Wrd} (S : Sit c u v t) (p : DV) : ∃ q7 q8, Bag q7 ((QL u v).flatMap fun x => QL x t) ∧ Bag q8 ((QL v t).flatMap fun x => QL x u) ∧ dPar 7 8 (aVal (dCall sem_law_further (aSlot 1 (aSlot 5 (aSlot 4 (aVal (ofF (dC (.bl false))) aNil))))) (aVal (dCall sem_law_further (aSlot 1 (aSlot 6 (aSlot 2 (aVal (ofF (dC (.bl false))) aNil))))) aNil)) (EN (some p) (some (.fz (.int c))) (some (.fz (WdD u))) (some (.fz (WdD v))) (some (.fz (WdD t))) (some (.ow (.lst (srtW (QL u v))))) (some (.ow (.lst (srtW (QL v t))))) none none none none none none none none none none none none none none none) = some (.nx, EN (some p) (some (.fz (.int c))) (some (.fz (WdD u))) (some (.fz (WdD v))) (some (.fz (WdD t))) (some (.fz (.lst (srtW (QL u v))))) (some (.fz (.lst (srtW (QL v t))))) (some (.ow (.dct (encP kW q7)))) (some (.ow (.dct (encP kW q8)))) none none none none none none none none none none none none none) := by
  obtain ⟨hc, hu, hv, ht, hs, bu, bv, bt⟩ := S
  have L1 := QL_len (show u.length ≤ 4 by omega) (show v.length ≤ 4 by omega)
  have L2 := QL_len (show v.length ≤ 4 by omega) (show t.length ≤ 4 by omega)
  have L3 : (QL u v).length ≤ 13 ∧ (QL v t).length ≤ 13 := by
    have k : ∀ m ≤ 2, ∀ n ≤ 2, delN m n ≤ 13 := fun m hm n hn => by
      rcases m with _ | _ | _ | m <;> rcases n with _ | _ | _ | n <;> first | omega | simp [delN]
    exact ⟨by rw [QL, Qs_len]; exact k _ hu _ hv, by rw [QL, Qs_len]; exact k _ hv _ ht⟩
  obtain ⟨ps, e1, hb1⟩ := srtW_bag (m := QL u v) (by simp only [lim]; omega)
  obtain ⟨qs, e2, hb2⟩ := srtW_bag (m := QL v t) (by simp only [lim]; omega)
  obtain ⟨q7, f1, g1⟩ := law_further_eq (c := c) (r := .ow (.lst (ps.map ItD))) (w := t) false (by omega) rfl hb1 (by omega) (fun x hx => by
    have := QL_WB (by omega) (by omega) bu bv hx
    exact ⟨WB_ok this.1 (by omega) (by omega), by omega⟩) (WB_ok bt (by omega) (by omega)) ht
  obtain ⟨q8, f2, g2⟩ := law_further_eq (c := c) (r := .ow (.lst (qs.map ItD))) (w := u) false (by omega) rfl hb2 (by omega) (fun x hx => by
    have := QL_WB (by omega) (by omega) bv bt hx
    exact ⟨WB_ok this.1 (by omega) (by omega), by omega⟩) (WB_ok bu (by omega) (by omega)) hu
  refine ⟨q7, q8, g1, g2, ?_⟩
  rw [e1, e2]
  simp [slotsOf, f1, f2, backTo']
theorem st6 {c : Nat} {u v t : Wrd} (S : Sit c u v t) (p x5 x6 x7 x8 : DV) : ∃ q9, Bag q9 ((QL u v).flatMap fun x => QL x t) ∧ dSet 9 (dCall sem_law_further (aSlot 1 (aVal (dBI sortB (aVal (dIts some (ice (dCall sem_law_laced (aSlot 2 (aSlot 3 aNil))))) aNil)) (aSlot 4 (aVal (ofF (dC (.bl true))) aNil))))) (EN (some p) (some (.fz (.int c))) (some (.fz (WdD u))) (some (.fz (WdD v))) (some (.fz (WdD t))) (some x5) (some x6) (some x7) (some x8) none none none none none none none none none none none none none) = some (.nx, EN (some p) (some (.fz (.int c))) (some (.fz (WdD u))) (some (.fz (WdD v))) (some (.fz (WdD t))) (some x5) (some x6) (some x7) (some x8) (some (.ow (.dct (encP kW q9)))) none none none none none none none none none none none none) := by
  obtain ⟨hc, hu, hv, ht, hs, bu, bv, bt⟩ := S
  have L1 := QL_len (show u.length ≤ 4 by omega) (show v.length ≤ 4 by omega)
  have L3 : (QL u v).length ≤ 13 := by
    have k : ∀ m ≤ 2, ∀ n ≤ 2, delN m n ≤ 13 := fun m hm n hn => by
      rcases m with _ | _ | _ | m <;> rcases n with _ | _ | _ | n <;> first | omega | simp [delN]
    rw [QL, Qs_len]; exact k _ hu _ hv
  obtain ⟨ls, l1, hl⟩ := law_laced_eq (u := u) (v := v) (by omega) hv (fun a ha => by have := (bu a ha).1; omega)
  obtain ⟨ps, e1, hb1⟩ := srtW_bag (m := QL u v) (by simp only [lim]; omega)
  have es := srtW_eq hl (by simp only [lim]; omega)
  rw [e1] at es
  have sb : sortB [.lst (ls.map ItD)] = some (.ow (.lst (ps.map ItD))) := by simp only [sortB, es, Option.bind_some]
  obtain ⟨q9, f1, g1⟩ := law_further_eq (c := c) (r := .ow (.lst (ps.map ItD))) (w := t) true (by omega) rfl hb1 (by omega) (fun x hx => by
    have := QL_WB (by omega) (by omega) bu bv hx
    exact ⟨WB_ok this.1 (by omega) (by omega), by omega⟩) (WB_ok bt (by omega) (by omega)) ht
  refine ⟨q9, g1, ?_⟩
  simp [slotsOf, l1, encP_ItD, sb, f1, backTo']
theorem eqA_bag {α : Type} [DecidableEq α] {E : KE α} {ps qs : Cnt α} {m : List α} (h : Bag ps m) (k : Bag qs m) (neg : Bool) : eqA neg (.dct (encP E ps)) (.dct (encP E qs)) = some (.bl (!neg)) := by
  have e : eqP neg (.dct (encP E ps)) (.dct (encP E qs)) = none := rfl
  simp only [eqA, e, eqDP, eqDct_bag h k, Option.bind_some, Bool.xor_true]
theorem addL_comm (a b : Ltr) : addL a b = addL b a := by
  unfold addL
  rw [List.zipWith_comm]
  congr 1; funext x y; omega
theorem addL_assoc : ∀ (a b c : Ltr), addL (addL a b) c = addL a (addL b c)
  | [], b, c => by simp [addL]
  | x :: a, [], c => by simp [addL]
  | x :: a, y :: b, [] => by simp [addL]
  | x :: a, y :: b, z :: c => by
    have := addL_assoc a b c
    simp only [addL] at this
    simp only [addL, List.zipWith_cons_cons, this, Int.add_assoc]
theorem QL_far (u v t : Wrd) : ((QL v t).flatMap fun x => QL x u).Perm ((QL u v).flatMap fun x => QL x t) := by
  have h1 : ((QL v t).flatMap fun x => QL x u).Perm ((QL v t).flatMap fun x => QL u x) := perm_of_sumOf fun φ => by
    rw [sumOf_flatMap, sumOf_flatMap]
    congr 1; funext x
    exact sumOf_perm φ (Qs_comm addL addL_comm x u)
  exact h1.trans (Qs_assoc addL addL_assoc u v t).symm
theorem st7 {u v t : Wrd} {q7 q8 q9 : Cnt Wrd} (g7 : Bag q7 ((QL u v).flatMap fun x => QL x t)) (g8 : Bag q8 ((QL v t).flatMap fun x => QL x u)) (g9 : Bag q9 ((QL u v).flatMap fun x => QL x t)) (x0 x1 x2 x3 x4 x5 x6 : Option DV) : dIfS (dOr (dTst (dBin (eqA true) (dVar 7) (dVar 9))) (dTst (dBin (eqA true) (dVar 8) (dVar 9)))) (dRet (ofF (dC (.bl false)))) dNext (EN x0 x1 x2 x3 x4 x5 x6 (some (.ow (.dct (encP kW q7)))) (some (.ow (.dct (encP kW q8)))) (some (.ow (.dct (encP kW q9)))) none none none none none none none none none none none none) = some (.nx, EN x0 x1 x2 x3 x4 x5 x6 (some (.fz (.dct (encP kW q7)))) (some (.fz (.dct (encP kW q8)))) (some (.fz (.dct (encP kW q9)))) none none none none none none none none none none none none) := by
  have h1 := eqA_bag (E := kW) g7 g9 true
  have h2 := eqA_bag (E := kW) (g8.perm (QL_far u v t)) g9 true
  simp [h1, h2]
theorem st8 (x0 x1 x2 x3 x4 x5 x6 x7 x8 x9 : Option DV) : dPar 10 11 (aVal dDnew (aVal dDnew aNil)) (EN x0 x1 x2 x3 x4 x5 x6 x7 x8 x9 none none none none none none none none none none none none) = some (.nx, EN x0 x1 x2 x3 x4 x5 x6 x7 x8 x9 (some (.ow (.dct []))) (some (.ow (.dct []))) none none none none none none none none none none) := by
  simp
end K25
end

section
set_option Elab.async false
set_option linter.all false
set_option maxRecDepth 100000
set_option maxHeartbeats 1000000
namespace K25
open PySem DS L2
theorem reps_perm {β : Type} (n : Nat) (L : List β) : (L.flatMap fun q => List.replicate n q).Perm (List.replicate n L).flatten := by
  classical
  exact perm_of_sumOf fun φ => by
    rw [sumOf_reps, sumOf_flatMap, ← sumOf_mul]
    congr 1; funext q
    rw [sumOf_replicate]
theorem cutsOf_eq (w : Wrd) : cutsOf w = cuts2 w := (cuts2_range w).symm
theorem cut_WB {c : Nat} {B : Int} {w : Wrd} (h : WB c B w) {q : Wrd × Wrd} (hq : q ∈ cutsOf w) : WB c B q.1 ∧ WB c B q.2 ∧ q.1.length ≤ w.length ∧ q.2.length ≤ w.length := by
  obtain ⟨i, hi, rfl⟩ := List.mem_map.mp hq
  refine ⟨fun a ha => h a (List.mem_of_mem_take ha), fun a ha => h a (List.mem_of_mem_drop ha), ?_, ?_⟩
  · rw [List.length_take]; omega
  · rw [List.length_drop]; omega
theorem QL_13 {u v : Wrd} (hu : u.length ≤ 2) (hv : v.length ≤ 2) : (QL u v).length ≤ 13 := by
  have k : ∀ m ≤ 2, ∀ n ≤ 2, delN m n ≤ 13 := fun m hm n hn => by
    rcases m with _ | _ | _ | m <;> rcases n with _ | _ | _ | n <;> first | omega | simp [delN]
  rw [QL, Qs_len]; exact k _ hu _ hv
theorem cuts_len {u v : Wrd} (hu : u.length ≤ 2) (hv : v.length ≤ 2) : ((QL u v).flatMap cuts2).length ≤ 65 := by
  have : ∀ L : List Wrd, (∀ x ∈ L, x.length ≤ 4) → (L.flatMap cuts2).length ≤ L.length * 5 := by
    intro L
    induction L with
    | nil => simp
    | cons x L ih =>
      intro h
      have h1 := ih fun y hy => h y (List.mem_cons_of_mem _ hy)
      have h2 := h x (List.mem_cons_self ..)
      have h3 : (cuts2 x).length = x.length + 1 := by rw [cuts2_range]; simp
      rw [List.flatMap_cons, List.length_append, List.length_cons]
      omega
  have h := this (QL u v) fun x hx => by
    have := (Qs_mem addL u v x hx (fun _ => True) (fun _ _ => trivial) (fun _ _ => trivial) (fun _ _ _ _ => trivial)).1
    omega
  have := QL_13 hu hv
  omega
abbrev lpT (c : Nat) (x0 x2 x3 x4 x5 x6 x7 x8 x9 : Option DV) (rs : Cnt (Wrd × Wrd)) (t12 t13 t14 : Option DV) : DEnv := EN x0 (some (.fz (.int c))) x2 x3 x4 x5 x6 x7 x8 x9 (some (.ow (.dct (encP kWW rs)))) (some (.ow (.dct []))) t12 t13 t14 none none none none none none none
theorem put_WW {rs : Cnt (Wrd × Wrd)} {M : List (Wrd × Wrd)} {x : Wrd × Wrd} {n : Nat} (hb : Bag rs M) (hn : 0 < n) (hl : M.length ≤ lim) : sem_law_put [.ow (.dct (encP kWW rs)), .fz (WpD x), .fz (.int n)] = some (.fz .non, [.ow (.dct (encP kWW (addN rs x n))), .fz (WpD x), .fz (.int n)]) := (law_put_eq (E := kWW) hb hn hl).1
theorem st9 {c : Nat} {u v : Wrd} (hc : c ≤ 2) (hu : u.length ≤ 2) (hv : v.length ≤ 2) (bu : WB c 2 u) (bv : WB c 2 v) (x0 x2 x3 x4 x6 x7 x8 x9 : Option DV) : ∃ q10 t12 t13 t14, Bag q10 ((QL u v).flatMap cuts2) ∧ dFor (dWSeq (dVar 5)) (bTup 2 (bCons (bName 12) (bCons (bName 13) bNil)))
    (dFor (dWSeq (ice (dCall sem_cuts (aSlot 1 (aSlot 12 aNil))))) (bName 14)
    (dExp (ice (dCall sem_law_put (aSlot 10 (aSlot 14 (aSlot 13 aNil))))))) (lpT c x0 x2 x3 x4 (some (.fz (.lst (srtW (QL u v))))) x6 x7 x8 x9 [] none none none) = some (.nx, lpT c x0 x2 x3 x4 (some (.fz (.lst (srtW (QL u v))))) x6 x7 x8 x9 q10 t12 t13 t14) := by
  have L1 := QL_13 hu hv
  obtain ⟨ps, ep, hb1⟩ := srtW_bag (m := QL u v) (by simp only [lim]; omega)
  have pm := hb1.sum cuts2
  obtain ⟨q10, sd', e1, ⟨t12, t13, t14, e2⟩, hb⟩ := forL_bag (b := bTup 2 (bCons (bName 12) (bCons (bName 13) bNil))) (body := dFor (dWSeq (ice (dCall sem_cuts (aSlot 1 (aSlot 12 aNil))))) (bName 14) (dExp (ice (dCall sem_law_put (aSlot 10 (aSlot 14 (aSlot 13 aNil)))))))
    ItD (fun p => (List.replicate p.2 (cuts2 p.1)).flatten) (fun rs sd => ∃ t12 t13 t14, sd = lpT c x0 x2 x3 x4 (some (.fz (.lst (srtW (QL u v))))) x6 x7 x8 x9 rs t12 t13 t14) lim ps (by
      rintro ⟨w, n⟩ hx rs M sd hb hl ⟨t12, t13, t14, rfl⟩
      have hm := hb1.mem hx
      simp only at hm hl
      have hw := QL_WB (by omega) (by omega) bu bv hm.1
      have hwo : WOk c w := WB_ok hw.1 (by omega) (by omega)
      have pr := reps_perm n (cuts2 w)
      obtain ⟨rs', sd', e1, ⟨t14', e2⟩, hb'⟩ := forL_bag (b := bName 14) (body := dExp (ice (dCall sem_law_put (aSlot 10 (aSlot 14 (aSlot 13 aNil)))))) WpD (fun q => List.replicate n q)
        (fun rs sd => ∃ t14, sd = lpT c x0 x2 x3 x4 (some (.fz (.lst (srtW (QL u v))))) x6 x7 x8 x9 rs (some (.fz (WdD w))) (some (.fz (.int n))) t14) lim (cuts2 w) (by
          rintro q hq rs M sd hb hl ⟨t14, rfl⟩
          have e3 := put_WW (x := q) hb hm.2.1 (by omega)
          refine ⟨_, lpT c x0 x2 x3 x4 (some (.fz (.lst (srtW (QL u v))))) x6 x7 x8 x9 (addN rs q n) (some (.fz (WdD w))) (some (.fz (.int n))) (some (.fz (WpD q))), _, rfl, ?_, ⟨_, rfl⟩, hb.add hm.2.1⟩
          simp [slotsOf, e3, backTo']) rs M (lpT c x0 x2 x3 x4 (some (.fz (.lst (srtW (QL u v))))) x6 x7 x8 x9 rs (some (.fz (WdD w))) (some (.fz (.int n))) t14) hb ⟨_, rfl⟩ (by rw [pr.length_eq]; exact hl)
      refine ⟨_, sd', rs', rfl, ?_, ⟨_, _, _, e2⟩, hb'.perm (List.Perm.append_left _ pr)⟩
      have ec := cuts_eq c w hwo (by omega)
      rw [cutsOf_eq] at ec
      have hfl : ∀ (s : DEnv) (L : List D), kWSeq (some (.lst L, s)) = some (L, s) := fun _ _ => rfl
      rw [← e1]
      simp [ItD, slotsOf, ec, backTo', hfl]) [] [] (lpT c x0 x2 x3 x4 (some (.fz (.lst (srtW (QL u v))))) x6 x7 x8 x9 [] none none none) .nil ⟨_, _, _, rfl⟩ (by
        have := cuts_len hu hv
        rw [pm.length_eq, List.length_nil]; simp only [lim]; omega)
  rw [List.nil_append] at hb
  refine ⟨q10, t12, t13, t14, hb.perm pm, ?_⟩
  rw [ep] at *
  have hfl : ∀ (s : DEnv) (L : List D), kWSeq (some (.lst L, s)) = some (L, s) := fun _ _ => rfl
  rw [← e2, ← e1]
  simp [hfl]
end K25
end

section
set_option Elab.async false
set_option linter.all false
set_option maxRecDepth 100000
set_option maxHeartbeats 1000000
namespace K25
open PySem DS L2
/-- both words' cuts, laced -/
abbrev dueW (p q : Wrd × Wrd) (w : Wrd) : List (Wrd × Wrd) := (QL p.2 q.2).map fun y => (w, y)
abbrev dueQ (p q : Wrd × Wrd) : List (Wrd × Wrd) := (QL p.1 q.1).flatMap (dueW p q)
abbrev dueP (v : Wrd) (p : Wrd × Wrd) : List (Wrd × Wrd) := (cuts2 v).flatMap (dueQ p)
abbrev l2T (c : Nat) (u v : Wrd) (x0 x4 x5 x6 x7 x8 x9 x10 : Option DV) (rs : Cnt (Wrd × Wrd)) (t12 t13 t14 t15 t16 t17 t18 t19 t20 : Option DV) : DEnv := EN x0 (some (.fz (.int c))) (some (.fz (WdD u))) (some (.fz (WdD v))) x4 x5 x6 x7 x8 x9 x10 (some (.ow (.dct (encP kWW rs)))) t12 t13 t14 t15 t16 t17 t18 t19 t20 none
abbrev bd4 : TM := dExp (ice (dCall sem_law_put (aSlot 11 (aVal (ofF (dTup (dCons (dVar 12) (dCons (dVar 19) dNil)))) (aVal (ofF (dBin mulD (dVar 13) (dVar 20))) aNil)))))
abbrev bd3 : TM := dFor (dWSeq (ice (dCall sem_lacings (aSlot 1 (aSlot 16 (aSlot 18 aNil)))))) (bTup 2 (bCons (bName 19) (bCons (bName 20) bNil))) bd4
abbrev bd2 : TM := dFor (dWSeq (ice (dCall sem_lacings (aSlot 1 (aSlot 15 (aSlot 17 aNil)))))) (bTup 2 (bCons (bName 12) (bCons (bName 13) bNil))) bd3
abbrev bd1 : TM := dFor (dWSeq (ice (dCall sem_cuts (aSlot 1 (aSlot 3 aNil))))) (bTup 2 (bCons (bName 17) (bCons (bName 18) bNil))) bd2
abbrev bd0 : TM := dFor (dWSeq (ice (dCall sem_cuts (aSlot 1 (aSlot 2 aNil))))) (bTup 2 (bCons (bName 15) (bCons (bName 16) bNil))) bd1
theorem seqfl (s : DEnv) (L : List D) : kWSeq (some (.lst L, s)) = some (L, s) := rfl
section
variable {c : Nat} {u v : Wrd} (x0 x4 x5 x6 x7 x8 x9 x10 : Option DV)
theorem lp4 {p q : Wrd × Wrd} {w : Wrd} {n : Nat} (hn : 0 < n) (hn2 : n ≤ 13) (hQ : (QL p.2 q.2).length ≤ 13) {ps : Cnt Wrd} (hps : Bag ps (QL p.2 q.2)) (rs : Cnt (Wrd × Wrd)) (M : List (Wrd × Wrd)) (hb : Bag rs M) (hl : M.length + (List.replicate n (dueW p q w)).flatten.length ≤ lim) (t14 t19 t20 : Option DV) :
    ∃ rs' y19 y20, dForL (bTup 2 (bCons (bName 19) (bCons (bName 20) bNil))) bd4 (ps.map ItD) (l2T c u v x0 x4 x5 x6 x7 x8 x9 x10 rs (some (.fz (WdD w))) (some (.fz (.int n))) t14 (some (.fz (WdD p.1))) (some (.fz (WdD p.2))) (some (.fz (WdD q.1))) (some (.fz (WdD q.2))) t19 t20) = some (.nx, l2T c u v x0 x4 x5 x6 x7 x8 x9 x10 rs' (some (.fz (WdD w))) (some (.fz (.int n))) t14 (some (.fz (WdD p.1))) (some (.fz (WdD p.2))) (some (.fz (WdD q.1))) (some (.fz (WdD q.2))) y19 y20) ∧ Bag rs' (M ++ (List.replicate n (dueW p q w)).flatten) := by
  have h1 := hps.map (fun y => (w, y)) (fun x y h => (Prod.mk.inj h).2)
  have pr := Bag.times h1 n
  rw [List.flatMap_map] at pr
  obtain ⟨rs', sd', e1, ⟨y19, y20, e2⟩, hb'⟩ := forL_bag (b := bTup 2 (bCons (bName 19) (bCons (bName 20) bNil))) (body := bd4) ItD (fun m => List.replicate (n * m.2) (w, m.1))
    (fun rs sd => ∃ t19 t20, sd = l2T c u v x0 x4 x5 x6 x7 x8 x9 x10 rs (some (.fz (WdD w))) (some (.fz (.int n))) t14 (some (.fz (WdD p.1))) (some (.fz (WdD p.2))) (some (.fz (WdD q.1))) (some (.fz (WdD q.2))) t19 t20) lim ps (by
      rintro ⟨y, m⟩ hx rs M sd hb hl ⟨t19, t20, rfl⟩
      have hm := hps.mem hx
      simp only at hm
      have hpos := Nat.mul_pos hn hm.2.1
      have e3 := put_WW (x := (w, y)) (n := n * m) hb hpos (by omega)
      have e4 := mulD_nn (a := n) (b := m) (by simp only [lim]; omega) (by simp only [lim]; omega)
      refine ⟨_, l2T c u v x0 x4 x5 x6 x7 x8 x9 x10 (addN rs (w, y) (n * m)) (some (.fz (WdD w))) (some (.fz (.int n))) t14 (some (.fz (WdD p.1))) (some (.fz (WdD p.2))) (some (.fz (WdD q.1))) (some (.fz (WdD q.2))) (some (.fz (WdD y))) (some (.fz (.int m))), _, rfl, ?_, ⟨_, _, rfl⟩, hb.add hpos⟩
      have e5 := WpD_eq w y
      have e6 := z2
      generalize n * m = nm at *
      simp [slotsOf, e4, e5, e6, e3, backTo']) rs M _ hb ⟨t19, t20, rfl⟩ (by rw [pr.length_eq]; exact hl)
  rw [e2] at e1
  exact ⟨rs', y19, y20, e1, hb'.perm (List.Perm.append_left _ pr)⟩
theorem lp3 (hc : c ≤ 2) {p q : Wrd × Wrd} (hp1 : WB c 2 p.1 ∧ p.1.length ≤ 2) (hp2 : WB c 2 p.2 ∧ p.2.length ≤ 2) (hq1 : WB c 2 q.1 ∧ q.1.length ≤ 2) (hq2 : WB c 2 q.2 ∧ q.2.length ≤ 2) (rs : Cnt (Wrd × Wrd)) (M : List (Wrd × Wrd)) (hb : Bag rs M) (hl : M.length + (dueQ p q).length ≤ lim) (t12 t13 t14 t19 t20 : Option DV) :
    ∃ rs' y12 y13 y19 y20, bd2 (l2T c u v x0 x4 x5 x6 x7 x8 x9 x10 rs t12 t13 t14 (some (.fz (WdD p.1))) (some (.fz (WdD p.2))) (some (.fz (WdD q.1))) (some (.fz (WdD q.2))) t19 t20) = some (.nx, l2T c u v x0 x4 x5 x6 x7 x8 x9 x10 rs' y12 y13 t14 (some (.fz (WdD p.1))) (some (.fz (WdD p.2))) (some (.fz (WdD q.1))) (some (.fz (WdD q.2))) y19 y20) ∧ Bag rs' (M ++ dueQ p q) := by
  have L1 := QL_13 hp1.2 hq1.2
  have L2 := QL_13 hp2.2 hq2.2
  have k1 := lacings_eq (c := c) (by omega) (WB_ok hp1.1 (by omega) (by omega)) (WB_ok hq1.1 (by omega) (by omega)) (by omega) (by omega)
  have k2 := lacings_eq (c := c) (by omega) (WB_ok hp2.1 (by omega) (by omega)) (WB_ok hq2.1 (by omega) (by omega)) (by omega) (by omega)
  obtain ⟨ps, e1, h1⟩ := srtW_bag (m := QL p.1 q.1) (by simp only [lim]; omega)
  obtain ⟨qs, e2, h2⟩ := srtW_bag (m := QL p.2 q.2) (by simp only [lim]; omega)
  rw [e1] at k1
  rw [e2] at k2
  have pr := h1.sum (dueW p q)
  obtain ⟨rs', sd', e1, ⟨y12, y13, y19, y20, e2⟩, hb'⟩ := forL_bag (b := bTup 2 (bCons (bName 12) (bCons (bName 13) bNil))) (body := bd3) ItD (fun m => (List.replicate m.2 (dueW p q m.1)).flatten)
    (fun rs sd => ∃ t12 t13 t19 t20, sd = l2T c u v x0 x4 x5 x6 x7 x8 x9 x10 rs t12 t13 t14 (some (.fz (WdD p.1))) (some (.fz (WdD p.2))) (some (.fz (WdD q.1))) (some (.fz (WdD q.2))) t19 t20) lim ps (by
      rintro ⟨w, n⟩ hx rs M sd hb hl ⟨t12, t13, t19, t20, rfl⟩
      have hm := h1.mem hx
      simp only at hm
      obtain ⟨rs', y19, y20, f1, f2⟩ := lp4 (c := c) (u := u) (v := v) x0 x4 x5 x6 x7 x8 x9 x10 (p := p) (q := q) (w := w) hm.2.1 (by omega) L2 h2 rs M hb hl t14 t19 t20
      refine ⟨_, _, rs', rfl, ?_, ⟨some (.fz (WdD w)), some (.fz (.int n)), y19, y20, rfl⟩, f2⟩
      rw [← f1]
      simp [ItD, slotsOf, k2, backTo', seqfl]) rs M _ hb ⟨t12, t13, t19, t20, rfl⟩ (by rw [pr.length_eq]; exact hl)
  rw [e2] at e1
  refine ⟨rs', y12, y13, y19, y20, ?_, hb'.perm (List.Perm.append_left _ pr)⟩
  rw [← e1]
  simp [slotsOf, k1, backTo', seqfl]
theorem lp1 (hc : c ≤ 2) (hu : u.length ≤ 2) (hv : v.length ≤ 2) (bu : WB c 2 u) (bv : WB c 2 v) {p : Wrd × Wrd} (hp1 : WB c 2 p.1 ∧ p.1.length ≤ 2) (hp2 : WB c 2 p.2 ∧ p.2.length ≤ 2) (rs : Cnt (Wrd × Wrd)) (M : List (Wrd × Wrd)) (hb : Bag rs M) (hl : M.length + (dueP v p).length ≤ lim) (t12 t13 t14 t17 t18 t19 t20 : Option DV) :
    ∃ rs' y12 y13 y17 y18 y19 y20, bd1 (l2T c u v x0 x4 x5 x6 x7 x8 x9 x10 rs t12 t13 t14 (some (.fz (WdD p.1))) (some (.fz (WdD p.2))) t17 t18 t19 t20) = some (.nx, l2T c u v x0 x4 x5 x6 x7 x8 x9 x10 rs' y12 y13 t14 (some (.fz (WdD p.1))) (some (.fz (WdD p.2))) y17 y18 y19 y20) ∧ Bag rs' (M ++ dueP v p) := by
  have ec := cuts_eq c v (WB_ok bv (by omega) (by omega)) (by omega)
  rw [cutsOf_eq] at ec
  obtain ⟨rs', sd', e1, ⟨y12, y13, y17, y18, y19, y20, e2⟩, hb'⟩ := forL_bag (b := bTup 2 (bCons (bName 17) (bCons (bName 18) bNil))) (body := bd2) WpD (dueQ p)
    (fun rs sd => ∃ t12 t13 t17 t18 t19 t20, sd = l2T c u v x0 x4 x5 x6 x7 x8 x9 x10 rs t12 t13 t14 (some (.fz (WdD p.1))) (some (.fz (WdD p.2))) t17 t18 t19 t20) lim (cuts2 v) (by
      rintro q hq rs M sd hb hl ⟨t12, t13, t17, t18, t19, t20, rfl⟩
      rw [← cutsOf_eq] at hq
      have hq' := cut_WB bv hq
      obtain ⟨rs', y12, y13, y19, y20, f1, f2⟩ := lp3 (c := c) (u := u) (v := v) x0 x4 x5 x6 x7 x8 x9 x10 hc hp1 hp2 (q := q) ⟨hq'.1, by omega⟩ ⟨hq'.2.1, by omega⟩ rs M hb hl t12 t13 t14 t19 t20
      exact ⟨_, _, rs', rfl, f1, ⟨_, _, _, _, _, _, rfl⟩, f2⟩) rs M _ hb ⟨t12, t13, t17, t18, t19, t20, rfl⟩ hl
  rw [e2] at e1
  refine ⟨rs', y12, y13, y17, y18, y19, y20, ?_, hb'⟩
  rw [← e1]
  simp [slotsOf, ec, backTo', seqfl]
theorem st10 (hc : c ≤ 2) (hu : u.length ≤ 2) (hv : v.length ≤ 2) (bu : WB c 2 u) (bv : WB c 2 v) (t12 t13 t14 : Option DV) :
    ∃ q11 y12 y13 y15 y16 y17 y18 y19 y20, bd0 (l2T c u v x0 x4 x5 x6 x7 x8 x9 x10 [] t12 t13 t14 none none none none none none) = some (.nx, l2T c u v x0 x4 x5 x6 x7 x8 x9 x10 q11 y12 y13 t14 y15 y16 y17 y18 y19 y20) ∧ Bag q11 ((QL u v).flatMap cuts2) := by
  have ec := cuts_eq c u (WB_ok bu (by omega) (by omega)) (by omega)
  rw [cutsOf_eq] at ec
  have pr := Qs_cuts addL u v
  have hlen : ((cuts2 u).flatMap (dueP v)).length ≤ 65 := by
    have h := pr.length_eq
    have h2 := cuts_len hu hv
    have e : ((cuts2 u).flatMap (dueP v)).length = (List.flatMap (fun p => List.flatMap (fun q => List.flatMap (fun x => List.map (fun y => (x, y)) (Qs addL p.2 q.2)) (Qs addL p.1 q.1)) (cuts2 v)) (cuts2 u)).length := rfl
    rw [e, ← h]; exact h2
  obtain ⟨rs', sd', e1, ⟨y12, y13, y15, y16, y17, y18, y19, y20, e2⟩, hb'⟩ := forL_bag (b := bTup 2 (bCons (bName 15) (bCons (bName 16) bNil))) (body := bd1) WpD (dueP v)
    (fun rs sd => ∃ t12 t13 t15 t16 t17 t18 t19 t20, sd = l2T c u v x0 x4 x5 x6 x7 x8 x9 x10 rs t12 t13 t14 t15 t16 t17 t18 t19 t20) lim (cuts2 u) (by
      rintro p hp rs M sd hb hl ⟨t12, t13, t15, t16, t17, t18, t19, t20, rfl⟩
      rw [← cutsOf_eq] at hp
      have hp' := cut_WB bu hp
      obtain ⟨rs', y12, y13, y17, y18, y19, y20, f1, f2⟩ := lp1 (c := c) (u := u) (v := v) x0 x4 x5 x6 x7 x8 x9 x10 hc hu hv bu bv (p := p) ⟨hp'.1, by omega⟩ ⟨hp'.2.1, by omega⟩ rs M hb hl t12 t13 t14 t17 t18 t19 t20
      exact ⟨_, _, rs', rfl, f1, ⟨_, _, _, _, _, _, _, _, rfl⟩, f2⟩) [] [] (l2T c u v x0 x4 x5 x6 x7 x8 x9 x10 [] t12 t13 t14 none none none none none none) .nil ⟨_, _, _, _, _, _, _, _, rfl⟩ (by rw [List.length_nil]; simp only [lim]; omega)
  rw [List.nil_append] at hb'
  rw [e2] at e1
  refine ⟨rs', y12, y13, y15, y16, y17, y18, y19, y20, ?_, hb'.perm pr.symm⟩
  rw [← e1]
  simp [slotsOf, ec, backTo', seqfl]
end
end K25
end

section
set_option Elab.async false
set_option linter.all false
set_option maxRecDepth 100000
set_option maxHeartbeats 1000000
namespace K25
open PySem DS L2
theorem st11 {m : List (Wrd × Wrd)} {q10 q11 : Cnt (Wrd × Wrd)} (g1 : Bag q10 m) (g2 : Bag q11 m) (x0 x1 x2 x3 x4 x5 x6 x7 x8 x9 x12 x13 x14 x15 x16 x17 x18 x19 x20 : Option DV) : dIfS (dTst (dBin (eqA true) (dVar 10) (dVar 11))) (dRet (ofF (dC (.bl false)))) dNext (EN x0 x1 x2 x3 x4 x5 x6 x7 x8 x9 (some (.ow (.dct (encP kWW q10)))) (some (.ow (.dct (encP kWW q11)))) x12 x13 x14 x15 x16 x17 x18 x19 x20 none) = some (.nx, EN x0 x1 x2 x3 x4 x5 x6 x7 x8 x9 (some (.fz (.dct (encP kWW q10)))) (some (.fz (.dct (encP kWW q11)))) x12 x13 x14 x15 x16 x17 x18 x19 x20 none) := by
  have h1 := eqA_bag (E := kWW) g1 g2 true
  simp [h1]
def revIt : D → D := fun x => match x with | .tup [.tup l, n] => .tup [.tup l.reverse, n] | _ => .non
theorem st12 {u v : Wrd} (hu : u.length ≤ 2) (hv : v.length ≤ 2) (x0 x1 x2 x3 x4 x6 x7 x8 x9 x10 x11 x12 x13 x14 x15 x16 x17 x18 x19 x20 : Option DV) : dSet 21 (dBI sortB (aVal (dLc (dWSeq (dVar 5)) (bTup 2 (bCons (bName 12) (bCons (bName 13) bNil))) dYes (dTup (dCons (ice (dRev (dVar 12))) (dCons (dVar 13) dNil))) [12, 13]) aNil)) (EN x0 x1 x2 x3 x4 (some (.fz (.lst (srtW (QL u v))))) x6 x7 x8 x9 x10 x11 x12 x13 x14 x15 x16 x17 x18 x19 x20 none) = some (.nx, EN x0 x1 x2 x3 x4 (some (.fz (.lst (srtW (QL u v))))) x6 x7 x8 x9 x10 x11 none none x14 x15 x16 x17 x18 x19 x20 (some (.ow (.lst (srtW ((QL u v).map List.reverse)))))) := by
  have L1 := QL_13 hu hv
  obtain ⟨ps, ep, hb1⟩ := srtW_bag (m := QL u v) (by simp only [lim]; omega)
  have hps := hb1.len
  have hb2 := hb1.map (List.reverse : Wrd → Wrd) (fun x y h => List.reverse_inj.mp h)
  have es := srtW_eq hb2 (by rw [List.length_map]; simp only [lim]; omega)
  obtain ⟨sd', e1, e2⟩ := lcL_map (b := bTup 2 (bCons (bName 12) (bCons (bName 13) bNil))) (tt := dYes) (te := dTup (dCons (ice (dRev (dVar 12))) (dCons (dVar 13) dNil))) (vs := [12, 13]) (fun sd => wipeD sd [12, 13] = EN x0 x1 x2 x3 x4 (some (.fz (.lst (srtW (QL u v))))) x6 x7 x8 x9 x10 x11 none none x14 x15 x16 x17 x18 x19 x20 none)
    revIt (ps.map ItD) (EN x0 x1 x2 x3 x4 (some (.fz (.lst (srtW (QL u v))))) x6 x7 x8 x9 x10 x11 x12 x13 x14 x15 x16 x17 x18 x19 x20 none) (by
      intro x hx sd hsd
      obtain ⟨⟨w, n⟩, _, rfl⟩ := List.mem_map.mp hx
      rw [hsd]
      refine ⟨_, _, EN x0 x1 x2 x3 x4 (some (.fz (.lst (srtW (QL u v))))) x6 x7 x8 x9 x10 x11 (some (.fz (WdD w))) (some (.fz (.int n))) x14 x15 x16 x17 x18 x19 x20 none, rfl, rfl, ?_, rfl⟩
      have h2 := z2
      have e : revIt (ItD (w, n)) = .tup [WdD w.reverse, .int n] := by
        show D.tup [.tup (w.map LtD).reverse, .int n] = _
        rw [← List.map_reverse]; rfl
      rw [e]
      simp [revD_W, h2]) rfl
  have em : (ps.map ItD).map revIt = (ps.map fun p => ((List.reverse p.1 : Wrd), p.2)).map ItD := by
    rw [List.map_map, List.map_map]; apply List.map_congr_left
    rintro ⟨w, n⟩ _
    show D.tup [.tup (w.map LtD).reverse, .int n] = _
    rw [← List.map_reverse]; rfl
  rw [em] at e1
  have hz : ((ps.map fun p => ((List.reverse p.1 : Wrd), p.2)).map ItD).length ≤ sizeLine := by rw [List.length_map, List.length_map, sizeLine_eq]; omega
  have sb : sortB [.lst ((ps.map fun p => ((List.reverse p.1 : Wrd), p.2)).map ItD)] = some (.ow (.lst (srtW ((QL u v).map List.reverse)))) := by simp only [sortB, es, Option.bind_some]
  generalize ((ps.map fun p => ((List.reverse p.1 : Wrd), p.2)).map ItD) = zz at *
  rw [ep] at *
  simp [seqfl, e1, e2, hz, sb]
theorem st13 {c : Nat} {u : Wrd} (hc : c ≤ 2) (hu : u.length ≤ 2) (bu : WB c 2 u) (x0 x3 x4 x5 x6 x7 x8 x9 x10 x11 x12 x13 x14 x15 x16 x17 x18 x19 x20 x21 : Option DV) : dIfS (dTst (dBin (eqA true) (ice (dCall sem_turned_word (aSlot 1 (aSlot 2 aNil)))) (ice (dRev (dVar 2))))) (dRet (ofF (dC (.bl false)))) dNext (EN x0 (some (.fz (.int c))) (some (.fz (WdD u))) x3 x4 x5 x6 x7 x8 x9 x10 x11 x12 x13 x14 x15 x16 x17 x18 x19 x20 x21) = some (.nx, EN x0 (some (.fz (.int c))) (some (.fz (WdD u))) x3 x4 x5 x6 x7 x8 x9 x10 x11 x12 x13 x14 x15 x16 x17 x18 x19 x20 x21) := by
  have h1 := turned_word_eq c u (WB_ok bu (by omega) (by omega)) (by omega)
  have h2 := eqA_W u.reverse true
  simp [slotsOf, h1, backTo', revD_W, h2]
theorem WB_rev {c : Nat} {B : Int} {w : Wrd} (h : WB c B w) : WB c B w.reverse := fun a ha => h a (List.mem_reverse.mp ha)
theorem st14 {c : Nat} {u v : Wrd} (hc : c ≤ 2) (hu : u.length ≤ 2) (hv : v.length ≤ 2) (bu : WB c 2 u) (bv : WB c 2 v) (x0 x4 x5 x6 x7 x8 x9 x10 x11 x12 x13 x14 x15 x16 x17 x18 x19 x20 : Option DV) : dIfS (dTst (dBin (eqA true) (ice (dCall sem_lacings (aSlot 1 (aVal (dRev (dVar 2)) (aVal (dCallK 2 sem_turned_word [1, 0] (aSlot 3 (aSlot 1 aNil))) aNil))))) (dVar 21))) (dRet (ofF (dC (.bl false)))) dNext (EN x0 (some (.fz (.int c))) (some (.fz (WdD u))) (some (.fz (WdD v))) x4 x5 x6 x7 x8 x9 x10 x11 x12 x13 x14 x15 x16 x17 x18 x19 x20 (some (.ow (.lst (srtW ((QL u v).map List.reverse)))))) = some (.nx, EN x0 (some (.fz (.int c))) (some (.fz (WdD u))) (some (.fz (WdD v))) x4 x5 x6 x7 x8 x9 x10 x11 x12 x13 x14 x15 x16 x17 x18 x19 x20 (some (.fz (.lst (srtW ((QL u v).map List.reverse)))))) := by
  have h1 := turned_word_eq c v (WB_ok bv (by omega) (by omega)) (by omega)
  have L1 := QL_13 hu hv
  have lu : u.reverse.length ≤ 2 := by rw [List.length_reverse]; exact hu
  have lv : v.reverse.length ≤ 2 := by rw [List.length_reverse]; exact hv
  have h2 := lacings_eq (c := c) (by omega) (WB_ok (WB_rev bu) (by omega) (by omega)) (WB_ok (WB_rev bv) (by omega) (by omega)) (by omega) (by omega)
  have pr := Qs_rev addL u v
  have e3 : srtW (QL u.reverse v.reverse) = srtW ((QL u v).map List.reverse) := srtW_perm pr (by rw [pr.length_eq, List.length_map]; have L2 : (Qs addL u v).length ≤ 13 := L1; simp only [lim]; omega)
  rw [e3] at h2
  obtain ⟨ps, ep, _⟩ := srtW_bag (m := (QL u v).map List.reverse) (by rw [List.length_map]; simp only [lim]; omega)
  have h4 := eqA_items ps true
  rw [← ep] at h4
  simp [slotsOf, h1, h2, backTo', revD_W, h4, noRoot, pick]
theorem st15 {c : Nat} {u : Wrd} (hc : c ≤ 2) (hu : u.length ≤ 2) (bu : WB c 2 u) (x0 x3 x4 x5 x6 x7 x8 x9 x10 x11 x12 x13 x14 x15 x16 x17 x18 x19 x20 x21 : Option DV) : dRet (ofF (dAndV (dBin (eqA false) (ice (dCall sem_lacings (aSlot 1 (aSlot 2 (aVal (ofF (dTup dNil)) aNil))))) (ice (dLst (dCons (dTup (dCons (dVar 2) (dCons (dC (.int 1)) dNil))) dNil)))) (dBin (eqA false) (ice (dCallK 3 sem_lacings [2, 1, 0] (aSlot 2 (aVal (ofF (dTup dNil)) (aSlot 1 aNil))))) (ice (dLst (dCons (dTup (dCons (dVar 2) (dCons (dC (.int 1)) dNil))) dNil)))))) (EN x0 (some (.fz (.int c))) (some (.fz (WdD u))) x3 x4 x5 x6 x7 x8 x9 x10 x11 x12 x13 x14 x15 x16 x17 x18 x19 x20 x21) = some (.rt (.fz (.bl true)), EN x0 (some (.fz (.int c))) (some (.fz (WdD u))) x3 x4 x5 x6 x7 x8 x9 x10 x11 x12 x13 x14 x15 x16 x17 x18 x19 x20 x21) := by
  have w0 : WOk c ([] : Wrd) := ⟨by simp, by simp⟩
  have wu := WB_ok bu (by omega) (by omega)
  have h1 := lacings_eq (c := c) (u := u) (v := []) (by omega) wu w0 (by omega) (by simp)
  have h2 := lacings_eq (c := c) (u := []) (v := u) (by omega) w0 wu (by simp) (by omega)
  rw [QL, Qs_nil2, srtW_one] at h1
  rw [QL, Qs_nil, srtW_one] at h2
  have e0 : WdD [] = .tup [] := rfl
  have e1 : ItD (u, 1) = .tup [WdD u, .int 1] := rfl
  rw [e0] at h1 h2
  have h3 := eqA_items [(u, 1)] false
  rw [List.map_cons, List.map_nil, e1] at h3
  rw [e1] at h1 h2
  have q1 : 1 ≤ sizeLine := by rw [sizeLine_eq]; omega
  have q2 := z2
  simp [slotsOf, h1, h2, backTo', h3, noRoot, pick, q1, q2]
theorem law_right_eq (a b : Int) (hb : BOk b) : ∃ a' b' : Int, sem_law_right [potD a b] = some (.fz (.bl true), [potD a' b']) := by
  obtain ⟨a1, b1, c, hc, hb1, e1⟩ := st1 a b hb
  obtain ⟨a2, b2, u, v, hu, hv, bu, bv, hb2, e2⟩ := st2 a1 b1 c hb1 hc
  obtain ⟨a3, b3, t, ht, hs, bt, hb3, e3⟩ := st3 a2 b2 c hb2 hc u v
  have S : Sit c u v t := ⟨hc, hu, hv, ht, hs, bu, bv, bt⟩
  have e4 := st4 S (potD a3 b3)
  obtain ⟨q7, q8, g7, g8, e5⟩ := st5 S (potD a3 b3)
  obtain ⟨q9, g9, e6⟩ := st6 S (potD a3 b3) (.fz (.lst (srtW (QL u v)))) (.fz (.lst (srtW (QL v t)))) (.ow (.dct (encP kW q7))) (.ow (.dct (encP kW q8)))
  have e7 := st7 (t := t) g7 g8 g9 (some (potD a3 b3)) (some (.fz (.int c))) (some (.fz (WdD u))) (some (.fz (WdD v))) (some (.fz (WdD t))) (some (.fz (.lst (srtW (QL u v))))) (some (.fz (.lst (srtW (QL v t)))))
  have e8 := st8 (some (potD a3 b3)) (some (.fz (.int c))) (some (.fz (WdD u))) (some (.fz (WdD v))) (some (.fz (WdD t))) (some (.fz (.lst (srtW (QL u v))))) (some (.fz (.lst (srtW (QL v t))))) (some (.fz (.dct (encP kW q7)))) (some (.fz (.dct (encP kW q8)))) (some (.fz (.dct (encP kW q9))))
  obtain ⟨q10, t12, t13, t14, g10, e9⟩ := st9 hc hu hv bu bv (some (potD a3 b3)) (some (.fz (WdD u))) (some (.fz (WdD v))) (some (.fz (WdD t))) (some (.fz (.lst (srtW (QL v t))))) (some (.fz (.dct (encP kW q7)))) (some (.fz (.dct (encP kW q8)))) (some (.fz (.dct (encP kW q9))))
  obtain ⟨q11, y12, y13, y15, y16, y17, y18, y19, y20, e10, g11⟩ := st10 (some (potD a3 b3)) (some (.fz (WdD t))) (some (.fz (.lst (srtW (QL u v))))) (some (.fz (.lst (srtW (QL v t))))) (some (.fz (.dct (encP kW q7)))) (some (.fz (.dct (encP kW q8)))) (some (.fz (.dct (encP kW q9)))) (some (.ow (.dct (encP kWW q10)))) hc hu hv bu bv t12 t13 t14
  have hr := seq_nx e1 (seq_nx e2 (seq_nx e3 (seq_nx e4 (seq_nx e5 (seq_nx e6 (seq_nx e7 (seq_nx e8 (seq_nx e9 (seq_nx e10 (seq_nx (st11 g10 g11 _ _ _ _ _ _ _ _ _ _ _ _ _ _ _ _ _ _ _) (seq_nx (st12 hu hv _ _ _ _ _ _ _ _ _ _ _ _ _ _ _ _ _ _ _ _) (seq_nx (st13 hc hu bu _ _ _ _ _ _ _ _ _ _ _ _ _ _ _ _ _ _ _ _) (seq_nx (st14 hc hu hv bu bv _ _ _ _ _ _ _ _ _ _ _ _ _ _ _ _ _ _) (st15 hc hu bu _ _ _ _ _ _ _ _ _ _ _ _ _ _ _ _ _ _ _ _))))))))))))))
  have hr2 : t_law_right [some (potD a b), none, none, none, none, none, none, none, none, none, none, none, none, none, none, none, none, none, none, none, none, none] = _ := hr
  refine ⟨a3, b3, ?_⟩
  simp [sem_law_right, semOf_s, List.replicate, hr2, wbs]
theorem law_true (ns : List Int) (h : ns.length ≤ 63) : ∃ ds', sem_law [.fz (.kl (ns.map .int))] = some (.fz (.bl true), ds') ∧ ds'.length = 1 := by
  obtain ⟨a, b, e1, hb⟩ := law_pot_eq ns
  obtain ⟨a', b', e2⟩ := law_right_eq a b hb
  refine ⟨[.fz (.kl (ns.map .int))], ?_, rfl⟩
  simp [sem_law, semOf_s, t_law, slotsOf, e1, e2, backTo', wbs]
end K25
end

section
set_option Elab.async false
set_option linter.all false
set_option maxRecDepth 100000
set_option maxHeartbeats 0
open PySem PySem.Spec PyProof.Rows L2 DS
namespace K25
/-! ### the head -/
def d_law_pot : He.DefD := ⟨("_law_pot", none), "_law_pot", "_law_pot", defArgs s_law_pot, defBody s_law_pot, defScope s_law_pot, [], []⟩
def d_law_draw : He.DefD := ⟨("_law_draw", none), "_law_draw", "_law_draw", defArgs s_law_draw, defBody s_law_draw, defScope s_law_draw, [], []⟩
def d_law_at : He.DefD := ⟨("_law_at", none), "_law_at", "_law_at", defArgs s_law_at, defBody s_law_at, defScope s_law_at, [], []⟩
def d_law_choices : He.DefD := ⟨("_law_choices", none), "_law_choices", "_law_choices", defArgs s_law_choices, defBody s_law_choices, defScope s_law_choices, [], []⟩
def d_law_laced : He.DefD := ⟨("_law_laced", none), "_law_laced", "_law_laced", defArgs s_law_laced, defBody s_law_laced, defScope s_law_laced, [], []⟩
def d_law_put : He.DefD := ⟨("_law_put", none), "_law_put", "_law_put", defArgs s_law_put, defBody s_law_put, defScope s_law_put, [], []⟩
def d_letters_times : He.DefD := ⟨("letters_times", none), "letters_times", "letters_times", defArgs s_letters_times, defBody s_letters_times, defScope s_letters_times, [], []⟩
def d_put_longer : He.DefD := ⟨("put_longer", none), "put_longer", "put_longer", defArgs s_put_longer, defBody s_put_longer, defScope s_put_longer, [], []⟩
def d_laced : He.DefD := ⟨("laced", none), "laced", "laced", defArgs s_laced, defBody s_laced, defScope s_laced, [], []⟩
def d_want_at_most : He.DefD := ⟨("want_at_most", none), "want_at_most", "want_at_most", defArgs s_want_at_most, defBody s_want_at_most, defScope s_want_at_most, [], []⟩
def d_is_integer : He.DefD := ⟨("is_integer", none), "is_integer", "is_integer", defArgs s_is_integer, defBody s_is_integer, defScope s_is_integer, [], []⟩
def d_is_count : He.DefD := ⟨("is_count", none), "is_count", "is_count", defArgs s_is_count, defBody s_is_count, defScope s_is_count, [], []⟩
def d_want_columns : He.DefD := ⟨("want_columns", none), "want_columns", "want_columns", defArgs s_want_columns, defBody s_want_columns, defScope s_want_columns, [], []⟩
def d_is_letter_of : He.DefD := ⟨("is_letter_of", none), "is_letter_of", "is_letter_of", defArgs s_is_letter_of, defBody s_is_letter_of, defScope s_is_letter_of, [], []⟩
def d_is_word_of : He.DefD := ⟨("is_word_of", none), "is_word_of", "is_word_of", defArgs s_is_word_of, defBody s_is_word_of, defScope s_is_word_of, [], []⟩
def d_want_word : He.DefD := ⟨("want_word", none), "want_word", "want_word", defArgs s_want_word, defBody s_want_word, defScope s_want_word, [], []⟩
def d_ways_many : He.DefD := ⟨("ways_many", none), "ways_many", "ways_many", defArgs s_ways_many, defBody s_ways_many, defScope s_ways_many, [], []⟩
def d_lacings : He.DefD := ⟨("lacings", none), "lacings", "lacings", defArgs s_lacings, defBody s_lacings, defScope s_lacings, [], []⟩
def d_law_further : He.DefD := ⟨("_law_further", none), "_law_further", "_law_further", defArgs s_law_further, defBody s_law_further, defScope s_law_further, [], []⟩
def d_law_letter : He.DefD := ⟨("_law_letter", none), "_law_letter", "_law_letter", defArgs s_law_letter, defBody s_law_letter, defScope s_law_letter, [], []⟩
def d_law_word : He.DefD := ⟨("_law_word", none), "_law_word", "_law_word", defArgs s_law_word, defBody s_law_word, defScope s_law_word, [], []⟩
def d_word_cuts : He.DefD := ⟨("word_cuts", none), "word_cuts", "word_cuts", defArgs s_word_cuts, defBody s_word_cuts, defScope s_word_cuts, [], []⟩
def d_cuts : He.DefD := ⟨("cuts", none), "cuts", "cuts", defArgs s_cuts, defBody s_cuts, defScope s_cuts, [], []⟩
def d_turned_word : He.DefD := ⟨("turned_word", none), "turned_word", "turned_word", defArgs s_turned_word, defBody s_turned_word, defScope s_turned_word, [], []⟩
def d_law_right : He.DefD := ⟨("_law_right", none), "_law_right", "_law_right", defArgs s_law_right, defBody s_law_right, defScope s_law_right, [], []⟩
def d_law : He.DefD := ⟨("law", none), "law", "law", defArgs s_law, defBody s_law, defScope s_law, [], []⟩
def fn : List He.DefD := [d_law_pot, d_law_draw, d_law_at, d_law_choices, d_law_laced, d_law_put, d_letters_times, d_put_longer, d_laced, d_want_at_most, d_is_integer, d_is_count, d_want_columns, d_is_letter_of, d_is_word_of, d_want_word, d_ways_many, d_lacings, d_law_further, d_law_letter, d_law_word, d_word_cuts, d_cuts, d_turned_word, d_law_right, d_law]
def fa : List He.Fa := [.glo "_law_pot", .glo "_law_draw", .glo "_law_at", .glo "_law_choices", .glo "_law_laced", .glo "_law_put", .glo "letters_times", .glo "put_longer", .glo "laced", .glo "want_at_most", .glo "is_integer", .glo "is_count", .glo "want_columns", .glo "is_letter_of", .glo "is_word_of", .glo "want_word", .glo "ways_many", .glo "lacings", .glo "_law_further", .glo "_law_letter", .glo "_law_word", .glo "word_cuts", .glo "cuts", .glo "turned_word", .glo "_law_right", .glo "law", .free "abs", .free "all", .free "bool", .free "divmod", .free "enumerate", .free "int", .free "isinstance", .free "len", .free "list", .free "max", .free "range", .free "sorted", .free "tuple", .free "zip", .int "MOST_COLUMNS" 3, .int "MOST_LETTERS" 8, .int "MOST_POWER" 8, .int "MOST_WAYS" 400]
def names0 : List Str := ["__name__", "SumsError", "LimitError", "InvalidColumns", "InvalidWord", "TooMany", "is_integer", "is_count", "want_at_most", "MOST_COLUMNS", "want_columns", "MOST_POWER", "MOST_LETTERS", "is_letter_of", "is_word_of", "want_word", "letters_times", "word_cuts", "cuts", "turned_word"]
def names1 : List Str := ["MOST_WAYS", "ways_many", "put_longer", "laced", "lacings", "_law_pot", "_law_draw", "_law_letter", "_law_word", "_law_choices", "_law_laced", "_law_at", "_law_put", "_law_further", "_law_right"]
abbrev names : List Str := names0 ++ names1
abbrev R : PySem.W.OpenRow := PySem.W.OpenLaw.row PySem.Challenge.rw_aheadsums_k25_whole_lacings_of_three_and
abbrev hk : PySem.W.Hook := He.hookD 4 fa fn
def ob (s : PySem.W.SharedT) : He.AlD := He.obsDG 4 fa fn (HandSHeadRun.getT s)
theorem ob_eq (s : PySem.W.SharedT) : ob s = hk.obs s.abs := He.obsDG_eq (HandSHeadRun.getT_eq s)
theorem run (w : World) : HandSHeadRun.RunEq R (PySem.W.view R.prog [40]) hk ob 2000 names w := by
  intro os
  kernel_rfl
theorem txt {K : PySem.W.Frag} {h : Heap} {mg : Str → Option Value} (X : K.In h) (G : h.Ns mainGlobals mg) (c : He.SaysD fa fn K) : Txt K mg where
  f_abs := He.free_ok X G (c.fact 26 (f := .free "abs") rfl)
  f_all := He.free_ok X G (c.fact 27 (f := .free "all") rfl)
  f_bool := He.free_ok X G (c.fact 28 (f := .free "bool") rfl)
  f_divmod := He.free_ok X G (c.fact 29 (f := .free "divmod") rfl)
  f_enumerate := He.free_ok X G (c.fact 30 (f := .free "enumerate") rfl)
  f_int := He.free_ok X G (c.fact 31 (f := .free "int") rfl)
  f_isinstance := He.free_ok X G (c.fact 32 (f := .free "isinstance") rfl)
  f_len := He.free_ok X G (c.fact 33 (f := .free "len") rfl)
  f_list := He.free_ok X G (c.fact 34 (f := .free "list") rfl)
  f_max := He.free_ok X G (c.fact 35 (f := .free "max") rfl)
  f_range := He.free_ok X G (c.fact 36 (f := .free "range") rfl)
  f_sorted := He.free_ok X G (c.fact 37 (f := .free "sorted") rfl)
  f_tuple := He.free_ok X G (c.fact 38 (f := .free "tuple") rfl)
  f_zip := He.free_ok X G (c.fact 39 (f := .free "zip") rfl)
  i_MOST_COLUMNS := He.int_ok X G (c.fact 40 (f := .int "MOST_COLUMNS" 3) rfl)
  i_MOST_LETTERS := He.int_ok X G (c.fact 41 (f := .int "MOST_LETTERS" 8) rfl)
  i_MOST_POWER := He.int_ok X G (c.fact 42 (f := .int "MOST_POWER" 8) rfl)
  i_MOST_WAYS := He.int_ok X G (c.fact 43 (f := .int "MOST_WAYS" 400) rfl)
  g_law_pot := let ⟨fd, F⟩ := c.def_ 0 (d := d_law_pot) rfl; ⟨_, fd, F, He.glo_ok X G (c.fact 0 (f := .glo "_law_pot") rfl)⟩
  g_law_draw := let ⟨fd, F⟩ := c.def_ 1 (d := d_law_draw) rfl; ⟨_, fd, F, He.glo_ok X G (c.fact 1 (f := .glo "_law_draw") rfl)⟩
  g_law_at := let ⟨fd, F⟩ := c.def_ 2 (d := d_law_at) rfl; ⟨_, fd, F, He.glo_ok X G (c.fact 2 (f := .glo "_law_at") rfl)⟩
  g_law_choices := let ⟨fd, F⟩ := c.def_ 3 (d := d_law_choices) rfl; ⟨_, fd, F, He.glo_ok X G (c.fact 3 (f := .glo "_law_choices") rfl)⟩
  g_law_laced := let ⟨fd, F⟩ := c.def_ 4 (d := d_law_laced) rfl; ⟨_, fd, F, He.glo_ok X G (c.fact 4 (f := .glo "_law_laced") rfl)⟩
  g_law_put := let ⟨fd, F⟩ := c.def_ 5 (d := d_law_put) rfl; ⟨_, fd, F, He.glo_ok X G (c.fact 5 (f := .glo "_law_put") rfl)⟩
  g_letters_times := let ⟨fd, F⟩ := c.def_ 6 (d := d_letters_times) rfl; ⟨_, fd, F, He.glo_ok X G (c.fact 6 (f := .glo "letters_times") rfl)⟩
  g_put_longer := let ⟨fd, F⟩ := c.def_ 7 (d := d_put_longer) rfl; ⟨_, fd, F, He.glo_ok X G (c.fact 7 (f := .glo "put_longer") rfl)⟩
  g_laced := let ⟨fd, F⟩ := c.def_ 8 (d := d_laced) rfl; ⟨_, fd, F, He.glo_ok X G (c.fact 8 (f := .glo "laced") rfl)⟩
  g_want_at_most := let ⟨fd, F⟩ := c.def_ 9 (d := d_want_at_most) rfl; ⟨_, fd, F, He.glo_ok X G (c.fact 9 (f := .glo "want_at_most") rfl)⟩
  g_is_integer := let ⟨fd, F⟩ := c.def_ 10 (d := d_is_integer) rfl; ⟨_, fd, F, He.glo_ok X G (c.fact 10 (f := .glo "is_integer") rfl)⟩
  g_is_count := let ⟨fd, F⟩ := c.def_ 11 (d := d_is_count) rfl; ⟨_, fd, F, He.glo_ok X G (c.fact 11 (f := .glo "is_count") rfl)⟩
  g_want_columns := let ⟨fd, F⟩ := c.def_ 12 (d := d_want_columns) rfl; ⟨_, fd, F, He.glo_ok X G (c.fact 12 (f := .glo "want_columns") rfl)⟩
  g_is_letter_of := let ⟨fd, F⟩ := c.def_ 13 (d := d_is_letter_of) rfl; ⟨_, fd, F, He.glo_ok X G (c.fact 13 (f := .glo "is_letter_of") rfl)⟩
  g_is_word_of := let ⟨fd, F⟩ := c.def_ 14 (d := d_is_word_of) rfl; ⟨_, fd, F, He.glo_ok X G (c.fact 14 (f := .glo "is_word_of") rfl)⟩
  g_want_word := let ⟨fd, F⟩ := c.def_ 15 (d := d_want_word) rfl; ⟨_, fd, F, He.glo_ok X G (c.fact 15 (f := .glo "want_word") rfl)⟩
  g_ways_many := let ⟨fd, F⟩ := c.def_ 16 (d := d_ways_many) rfl; ⟨_, fd, F, He.glo_ok X G (c.fact 16 (f := .glo "ways_many") rfl)⟩
  g_lacings := let ⟨fd, F⟩ := c.def_ 17 (d := d_lacings) rfl; ⟨_, fd, F, He.glo_ok X G (c.fact 17 (f := .glo "lacings") rfl)⟩
  g_law_further := let ⟨fd, F⟩ := c.def_ 18 (d := d_law_further) rfl; ⟨_, fd, F, He.glo_ok X G (c.fact 18 (f := .glo "_law_further") rfl)⟩
  g_law_letter := let ⟨fd, F⟩ := c.def_ 19 (d := d_law_letter) rfl; ⟨_, fd, F, He.glo_ok X G (c.fact 19 (f := .glo "_law_letter") rfl)⟩
  g_law_word := let ⟨fd, F⟩ := c.def_ 20 (d := d_law_word) rfl; ⟨_, fd, F, He.glo_ok X G (c.fact 20 (f := .glo "_law_word") rfl)⟩
  g_word_cuts := let ⟨fd, F⟩ := c.def_ 21 (d := d_word_cuts) rfl; ⟨_, fd, F, He.glo_ok X G (c.fact 21 (f := .glo "word_cuts") rfl)⟩
  g_cuts := let ⟨fd, F⟩ := c.def_ 22 (d := d_cuts) rfl; ⟨_, fd, F, He.glo_ok X G (c.fact 22 (f := .glo "cuts") rfl)⟩
  g_turned_word := let ⟨fd, F⟩ := c.def_ 23 (d := d_turned_word) rfl; ⟨_, fd, F, He.glo_ok X G (c.fact 23 (f := .glo "turned_word") rfl)⟩
  g_law_right := let ⟨fd, F⟩ := c.def_ 24 (d := d_law_right) rfl; ⟨_, fd, F, He.glo_ok X G (c.fact 24 (f := .glo "_law_right") rfl)⟩
  g_law := let ⟨fd, F⟩ := c.def_ 25 (d := d_law) rfl; ⟨_, fd, F, He.glo_ok X G (c.fact 25 (f := .glo "law") rfl)⟩
theorem facts {P : Program} {w : World} {K : PySem.W.Frag} {h : Heap} {mg : Str → Option Value} {f : Addr} (X : K.In h) (G : h.Ns mainGlobals mg) (hfa : mg ("law" : Str) = some (.ref f)) (c : He.SaysD fa fn K) :
    ∃ fd : FuncData, (∀ (s : Shared) (v : Value), BindsTo s fd ⟨[v], []⟩ [("_law_script", v)]) ∧ ∀ base : Heap, K.In base → base.Ns mainGlobals mg → FnOk P w K mg base CX0 9 f fd ["_law_script"] (spD ⟨P, w, K, mg⟩ sem_law) := by
  have T := txt X G c
  obtain ⟨f', fd, F, hm⟩ := T.g_law
  have e := hfa.symm.trans hm
  cases e
  have b := FunD.bindsA (ps := ["_law_script"]) F fun _ _ _ _ _ _ us hl => match us, hl with | [_], _ => rfl
  exact ⟨fd, fun s v => b s [v] rfl, fun base _ _ => lawOk T F⟩
end K25
open PySem PySem.W PySem.Calls PyProof.Rows
theorem PySem.Challenge.cw_aheadsums_k25_whole_lacings_of_three_and_holds : PySem.Challenge.rw_aheadsums_k25_whole_lacings_of_three_and.Holds := by
  w_on; o_law
  refine HandSHeadRun.head_any (r := OpenLaw.row PySem.Challenge.rw_aheadsums_k25_whole_lacings_of_three_and) (q := view (OpenLaw.row PySem.Challenge.rw_aheadsums_k25_whole_lacings_of_three_and).prog [40]) (H := K25.hk) (ob := K25.ob) (M := 2000) (loose := K25.names) (d := HandSHeadRun.topDef (OpenLaw.row PySem.Challenge.rw_aheadsums_k25_whole_lacings_of_three_and).prog 40) (kwd := []) K25.ob_eq
    (by kernel_rfl) (fun s => by kernel_rfl) K25.run (by kernel_rfl) (by kernel_rfl) (by kernel_rfl) (by rfl) (by first | assumption | decide +kernel) (by decide +kernel) ⟨rfl, rfl, rfl, rfl, rfl, by decide +kernel⟩ ?hw ?hc
  case hw => w_witness2
  case hc =>
    refine L2.walk_ofE (l := PySem.Challenge.rw_aheadsums_k25_whole_lacings_of_three_and) (n := 63) (k := 9) (x := "_law_script") (CX := L2.CX0) rfl (by decide) (by kernel_rfl) ⟨rfl, by decide, by decide⟩ ?F (fun _ _ _ _ z => z)
    intro w mg fa h Y G hmg0
    obtain ⟨K, KX, c⟩ := Y
    have hmg : mg ("law" : PySem.Str) = some (.ref fa) := by
      have e : (HandSHeadRun.topDef (OpenLaw.row PySem.Challenge.rw_aheadsums_k25_whole_lacings_of_three_and).prog 40).name = ("law" : PySem.Str) := by kernel_rfl
      rw [← e]
      exact hmg0
    obtain ⟨fd, hb, hF⟩ := K25.facts (P := (PySem.Challenge.rw_aheadsums_k25_whole_lacings_of_three_and).prog) (w := w) KX G hmg c
    refine ⟨K, fd, DS.spD ⟨(PySem.Challenge.rw_aheadsums_k25_whole_lacings_of_three_and).prog, w, K, mg⟩ K25.sem_law, KX, hb, fun H a ns hl _ hS => ?_, hF⟩
    obtain ⟨ds', e1, e2⟩ := K25.law_true ns hl
    exact DS.law_end hS e1 e2
end
