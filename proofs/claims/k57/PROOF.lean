import PyProof.Rows.All
import Wide.All
import OpenK.AllK
import Wide.FinOn
import HandS.ForMost
import HandS.Walk
import HandS.IsInst
import HandS.Wide
import HandS.Zip
import HandS.Defaults
import HandS.Flow
import HandS.Style
import HandS.TupAny
import HandS.TupMul
import HandS.TupLe
import HandS.Small
import HandS.CallLocal
import HandS.Conv
import HandS.More
import KE.KStateDown
import HandS.Head0
import HandS.Head1
import HandS.Head2
import HandS.HeadEnd
import HandS.HeadHook1
import HandS.HeadHook2
import HandS.RaiseMore
import HandS.HeadHook3
import HandS.Iter
import HandS.WideBits
import HandS.NoneIn
import KE.KDictZip
import KE.KDictList
import HandS.OwnIter
import HandS.RevRange
import KE.GoesMore
import KE.GoesEnum
import HandS.Rev
import PySem.Challenge.RW_scenetongue_k57_boxes_along_rays
set_option Elab.async false
set_option linter.all false
set_option maxRecDepth 100000
set_option maxHeartbeats 4000000
namespace ML
open PySem PySem.Spec PyProof.Rows L2

/-- plain data, and places of the store -/
inductive D where
  | non | bl (b : Bool) | int (i : Int) | str (x : Str) | tup (xs : List D) | loc (l : Nat) | ty (n : String) | fn (x : Str)
  deriving Inhabited
/-- an object of the store: a list; a list that is only read; a dict by ints and texts -/
inductive Ob where
  | lst (xs : List D)
  | rol (xs : List D)
  | dk (kvs : List (Key × D))
abbrev Sto : Type := List Ob
/-- where a place stands, and whether it is written to -/
abbrev Lo : Type := Addr × Bool

/-- the written part, and what the module's names hold -/
structure Gx where
  K : PySem.W.Frag
  mg : Str → Option Value
abbrev gx (X : Cx) : Gx := ⟨X.K, X.mg⟩

mutual
def Rp (G : Gx) (ρ : List Lo) (H : Hp) : D → V → Prop
  | .non, v => v = .non
  | .bl b, v => v = .bl b
  | .int i, v => v = .int i
  | .str x, v => v = .str x
  | .ty n, v => v = .ty n
  | .fn x, v => ∃ u, G.mg x = some u ∧ RelV v u
  | .loc l, v => ∃ a, ρ[l]? = some a ∧ v = .ref a.1
  | .tup ds, v => ∃ a vs, v = .ref a ∧ SqT G.K H a vs ∧ RpL G ρ H ds vs
def RpL (G : Gx) (ρ : List Lo) (H : Hp) : List D → List V → Prop
  | [], vs => vs = []
  | d :: ds, vs => ∃ v r, vs = v :: r ∧ Rp G ρ H d v ∧ RpL G ρ H ds r
end

def RpK (G : Gx) (ρ : List Lo) (H : Hp) : List (Key × D) → List (Key × V) → Prop
  | [], vs => vs = []
  | d :: ds, vs => ∃ v r, vs = (d.1, v) :: r ∧ Rp G ρ H d.2 v ∧ RpK G ρ H ds r

/-- a list that is only read: locked, or of the written part -/
def SqR (K : PySem.W.Frag) (H : Hp) (a : Addr) (xs : List V) : Prop :=
  (∃ o, H a = some (.frz o (.lst xs))) ∨
    ∃ (o : Obj) (its : Array Value) (n : Nat), K.lookup a = some o ∧ o.cls = .type "list" ∧ o.dict = none ∧ o.data = .seq its n ∧ its.size ≤ sizeLine ∧ Vals xs its.toList
theorem SqR.sq {K : PySem.W.Frag} {H : Hp} {a : Addr} {xs : List V} (h : SqR K H a xs) : SqL K H a xs := h.elim (fun h => .inl (.inr h)) .inr
theorem SqR.of {K : PySem.W.Frag} {H : Hp} {a : Addr} {xs : List V} (hO : Only H) (h : SqL K H a xs) : SqR K H a xs := by
  rcases h with (h | h) | h
  · rcases hO a with z | ⟨o, ys, z⟩
    · rw [z] at h; cases h
    · rw [z] at h; cases h
  · exact .inl h
  · exact .inr h
def ObR (G : Gx) (ρ : List Lo) (H : Hp) (a : Addr) : Ob → Prop
  | .lst ds => ∃ vs, H a = some (.lst vs) ∧ RpL G ρ H ds vs
  | .rol ds => ∃ vs, SqR G.K H a vs ∧ RpL G ρ H ds vs
  | .dk kvs => ∃ ws, H a = some (.dK ws) ∧ RpK G ρ H kvs ws
def Ob.mu : Ob → Bool
  | .rol _ => false
  | _ => true

structure SR (G : Gx) (ρ : List Lo) (H : Hp) (S : List Ob) : Prop where
  len : ρ.length = S.length
  obj : ∀ (l : Nat) (o : Ob) (a : Lo), S[l]? = some o → ρ[l]? = some a → ObR G ρ H a.1 o
  mu : ∀ (l : Nat) (o : Ob) (a : Lo), S[l]? = some o → ρ[l]? = some a → o.mu = a.2
  inj : ∀ (l l' : Nat) (a : Addr), ρ[l]? = some (a, true) → ρ[l']? = some (a, true) → l = l'

/-- what data lean on -/
structure Mon (ρ : List Lo) (H : Hp) (ρ' : List Lo) (H' : Hp) : Prop where
  pre : ρ <+: ρ'
  tup : ∀ a xs, H a = some (.tup xs) → H' a = some (.tup xs)
  frz : ∀ a o u, H a = some (.frz o u) → H' a = some (.frz o u)
/-- what a step leaves -/
structure Step (ρ : List Lo) (H : Hp) (ρ' : List Lo) (H' : Hp) : Prop extends Mon ρ H ρ' H' where
  new : ∀ a, (a, true) ∈ ρ' → (a, true) ∈ ρ ∨ H a = none
  oth : ∀ a o, H a = some o → (a, true) ∉ ρ → H' a = some o
theorem Step.refl (ρ : List Lo) (H : Hp) : Step ρ H ρ H := ⟨⟨List.prefix_refl _, fun _ _ h => h, fun _ _ _ h => h⟩, fun _ h => .inl h, fun _ _ h _ => h⟩
theorem Step.trans {ρ ρ1 ρ2 : List Lo} {H H1 H2 : Hp} (a : Step ρ H ρ1 H1) (b : Step ρ1 H1 ρ2 H2) : Step ρ H ρ2 H2 := by
  refine ⟨⟨a.pre.trans b.pre, fun x xs h => b.tup _ _ (a.tup _ _ h), fun x o u h => b.frz _ _ _ (a.frz _ _ _ h)⟩, fun x hx => ?_, fun x o h hn => ?_⟩
  · rcases b.new x hx with h | h
    · exact a.new x h
    · by_cases hm : (x, true) ∈ ρ
      · exact .inl hm
      · refine .inr ?_
        cases q : H x with
        | none => rfl
        | some o => rw [a.oth x o q hm] at h; cases h
  · refine b.oth x o (a.oth x o h hn) fun hm => ?_
    rcases a.new x hm with z | z
    · exact hn z
    · rw [z] at h; cases h
theorem Mon.seqT {K : PySem.W.Frag} {ρ ρ' : List Lo} {H H' : Hp} {a : Addr} {xs : List V} (s : Mon ρ H ρ' H') (h : SqT K H a xs) : SqT K H' a xs := by
  rcases h with (h | ⟨o, h⟩) | h
  · exact .inl (.inl (s.tup _ _ h))
  · exact .inl (.inr ⟨o, s.frz _ _ _ h⟩)
  · exact .inr h
theorem pre_get {α : Type} {l l' : List α} (h : l <+: l') {i : Nat} {x : α} (e : l[i]? = some x) : l'[i]? = some x := by
  obtain ⟨r, rfl⟩ := h
  rw [List.getElem?_append_left]
  · exact e
  · exact (List.getElem?_eq_some_iff.mp e).1

mutual
theorem Rp.mon {G : Gx} {ρ ρ' : List Lo} {H H' : Hp} (s : Mon ρ H ρ' H') : ∀ {d : D} {v : V}, Rp G ρ H d v → Rp G ρ' H' d v
  | .non, _, h => by simpa [Rp] using h
  | .bl _, _, h => by simpa [Rp] using h
  | .int _, _, h => by simpa [Rp] using h
  | .str _, _, h => by simpa [Rp] using h
  | .ty _, _, h => by simpa [Rp] using h
  | .fn _, _, h => by simpa [Rp] using h
  | .loc l, _, h => by
    simp only [Rp] at h ⊢
    obtain ⟨a, e, r⟩ := h
    exact ⟨a, pre_get s.pre e, r⟩
  | .tup ds, _, h => by
    simp only [Rp] at h ⊢
    obtain ⟨a, vs, e, q, r⟩ := h
    exact ⟨a, vs, e, s.seqT q, RpL.mon s r⟩
theorem RpL.mon {G : Gx} {ρ ρ' : List Lo} {H H' : Hp} (s : Mon ρ H ρ' H') : ∀ {ds : List D} {vs : List V}, RpL G ρ H ds vs → RpL G ρ' H' ds vs
  | [], _, h => by simpa [RpL] using h
  | d :: ds, _, h => by
    simp only [RpL] at h ⊢
    obtain ⟨v, r, e, q, t⟩ := h
    exact ⟨v, r, e, Rp.mon s q, RpL.mon s t⟩
end
theorem RpK.mon {G : Gx} {ρ ρ' : List Lo} {H H' : Hp} (s : Mon ρ H ρ' H') : ∀ {ds : List (Key × D)} {vs : List (Key × V)}, RpK G ρ H ds vs → RpK G ρ' H' ds vs
  | [], _, h => by simpa [RpK] using h
  | d :: ds, _, h => by
    simp only [RpK] at h ⊢
    obtain ⟨v, r, e, q, t⟩ := h
    exact ⟨v, r, e, Rp.mon s q, RpK.mon s t⟩
theorem Rp.step {G : Gx} {ρ ρ' : List Lo} {H H' : Hp} {d : D} {v : V} (h : Rp G ρ H d v) (s : Step ρ H ρ' H') : Rp G ρ' H' d v := Rp.mon s.toMon h
theorem RpL.step {G : Gx} {ρ ρ' : List Lo} {H H' : Hp} {d : List D} {v : List V} (h : RpL G ρ H d v) (s : Step ρ H ρ' H') : RpL G ρ' H' d v := RpL.mon s.toMon h
theorem RpL.length {G : Gx} {ρ : List Lo} {H : Hp} : ∀ {ds : List D} {vs : List V}, RpL G ρ H ds vs → vs.length = ds.length
  | [], _, h => by simp only [RpL] at h; rw [h]; rfl
  | d :: ds, _, h => by
    simp only [RpL] at h
    obtain ⟨v, r, e, q, t⟩ := h
    rw [e, List.length_cons, RpL.length t, List.length_cons]
theorem RpL.get {G : Gx} {ρ : List Lo} {H : Hp} : ∀ {ds : List D} {vs : List V} {i : Nat} {d : D}, RpL G ρ H ds vs → ds[i]? = some d → ∃ v, vs[i]? = some v ∧ Rp G ρ H d v
  | [], _, _, _, _, e => by simp at e
  | d :: ds, _, 0, _, h, e => by
    simp only [RpL] at h
    obtain ⟨v, r, rfl, q, t⟩ := h
    simp at e; subst e
    exact ⟨v, rfl, q⟩
  | d :: ds, _, i + 1, _, h, e => by
    simp only [RpL] at h
    obtain ⟨v, r, rfl, q, t⟩ := h
    obtain ⟨w, h1, h2⟩ := RpL.get t (i := i) (by simpa using e)
    exact ⟨w, by simpa using h1, h2⟩
theorem RpL.append {G : Gx} {ρ : List Lo} {H : Hp} : ∀ {ds es : List D} {vs us : List V}, RpL G ρ H ds vs → RpL G ρ H es us → RpL G ρ H (ds ++ es) (vs ++ us)
  | [], _, _, _, h, h' => by simp only [RpL] at h; subst h; exact h'
  | d :: ds, _, _, _, h, h' => by
    simp only [RpL] at h
    obtain ⟨v, r, rfl, q, t⟩ := h
    show RpL G ρ H (d :: (ds ++ _)) _
    simp only [RpL]
    exact ⟨v, r ++ _, rfl, q, RpL.append t h'⟩
theorem RpL.one {G : Gx} {ρ : List Lo} {H : Hp} {d : D} {v : V} (h : Rp G ρ H d v) : RpL G ρ H [d] [v] := by
  simp only [RpL]; exact ⟨v, [], rfl, h, rfl⟩
theorem RpL.nil {G : Gx} {ρ : List Lo} {H : Hp} : RpL G ρ H [] [] := by simp only [RpL]
theorem RpL.cons {G : Gx} {ρ : List Lo} {H : Hp} {d : D} {v : V} {ds : List D} {vs : List V} (h : Rp G ρ H d v) (t : RpL G ρ H ds vs) : RpL G ρ H (d :: ds) (v :: vs) := by
  simp only [RpL]; exact ⟨v, vs, rfl, h, t⟩
theorem RpL.set {G : Gx} {ρ : List Lo} {H : Hp} {d : D} {v : V} (hv : Rp G ρ H d v) : ∀ {ds : List D} {vs : List V} (i : Nat), RpL G ρ H ds vs → RpL G ρ H (ds.set i d) (vs.set i v)
  | [], _, _, h => by simp only [RpL] at h; subst h; exact RpL.nil
  | e :: ds, _, 0, h => by
    simp only [RpL] at h
    obtain ⟨w, r, rfl, q, t⟩ := h
    exact RpL.cons hv t
  | e :: ds, _, i + 1, h => by
    simp only [RpL] at h
    obtain ⟨w, r, rfl, q, t⟩ := h
    exact RpL.cons q (RpL.set hv i t)
theorem RpL.take {G : Gx} {ρ : List Lo} {H : Hp} : ∀ {ds : List D} {vs : List V} (n : Nat), RpL G ρ H ds vs → RpL G ρ H (ds.take n) (vs.take n)
  | _, _, 0, h => by simp only [List.take_zero]; exact RpL.nil
  | [], _, _ + 1, h => by simp only [RpL] at h; subst h; exact RpL.nil
  | e :: ds, _, n + 1, h => by
    simp only [RpL] at h
    obtain ⟨w, r, rfl, q, t⟩ := h
    exact RpL.cons q (RpL.take n t)
theorem RpL.drop {G : Gx} {ρ : List Lo} {H : Hp} : ∀ {ds : List D} {vs : List V} (n : Nat), RpL G ρ H ds vs → RpL G ρ H (ds.drop n) (vs.drop n)
  | _, _, 0, h => h
  | [], _, _ + 1, h => by simp only [RpL] at h; subst h; exact RpL.nil
  | e :: ds, _, n + 1, h => by
    simp only [RpL] at h
    obtain ⟨w, r, rfl, q, t⟩ := h
    exact RpL.drop n t

section
variable {G : Gx} {ρ : List Lo} {H : Hp} {S : Sto}
theorem Mon.upd {p : Addr} {o : HO} (h : H p = none) : Mon ρ H ρ (upd H p o) :=
  ⟨List.prefix_refl _, fun a xs e => by rw [upd_ne (ne_of_none e h)]; exact e, fun a x u e => by rw [upd_ne (ne_of_none e h)]; exact e⟩
theorem Mon.ext {r : List Lo} : Mon ρ H (ρ ++ r) H := ⟨List.prefix_append _ _, fun _ _ e => e, fun _ _ _ e => e⟩
theorem Step.untracked {p : Addr} {o : HO} (h : H p = none) : Step ρ H ρ (upd H p o) :=
  ⟨Mon.upd h, fun _ h => .inl h, fun a x e _ => by rw [upd_ne (ne_of_none e h)]; exact e⟩
theorem Step.newloc {p : Addr} {o : HO} (h : H p = none) : Step ρ H (ρ ++ [(p, true)]) (upd H p o) :=
  ⟨⟨List.prefix_append _ _, (Mon.upd (ρ := ρ) h).tup, (Mon.upd (ρ := ρ) h).frz⟩, fun a ha => by
    rcases List.mem_append.mp ha with z | z
    · exact .inl z
    · have e : a = p := by simpa using z
      exact .inr (e ▸ h), fun a x e _ => by rw [upd_ne (ne_of_none e h)]; exact e⟩
/-- a place written: it is tracked as no tuple, nothing locked -/
theorem Step.write {a : Addr} {o u : HO} (ha : (a, true) ∈ ρ) (hm : H a = some u) (h1 : ∀ xs, u ≠ .tup xs) (h2 : ∀ x y, u ≠ .frz x y) : Step ρ H ρ (upd H a o) := by
  refine ⟨⟨List.prefix_refl _, fun b xs e => ?_, fun b x y e => ?_⟩, fun _ h => .inl h, fun b x e hb => ?_⟩
  · have : b ≠ a := by rintro rfl; rw [hm] at e; exact h1 _ (Option.some.inj e)
    rw [upd_ne this]; exact e
  · have : b ≠ a := by rintro rfl; rw [hm] at e; exact h2 _ _ (Option.some.inj e)
    rw [upd_ne this]; exact e
  · have : b ≠ a := by rintro rfl; exact hb ha
    rw [upd_ne this]; exact e
/-- an object moved over a step that leaves its own place -/
theorem ObR.over {ρ' : List Lo} {H' : Hp} {a : Addr} (s : Mon ρ H ρ' H') : ∀ {o : Ob}, (o.mu = true → ∀ x, H a = some x → H' a = some x) → ObR G ρ H a o → ObR G ρ' H' a o
  | .lst ds, hm, ⟨vs, e, r⟩ => ⟨vs, hm rfl _ e, RpL.mon s r⟩
  | .rol ds, _, ⟨vs, e, r⟩ => ⟨vs, by
      rcases e with ⟨w, e⟩ | e
      · exact .inl ⟨w, s.frz _ _ _ e⟩
      · exact .inr e, RpL.mon s r⟩
  | .dk kvs, hm, ⟨ws, e, r⟩ => ⟨ws, hm rfl _ e, RpK.mon s r⟩
theorem SR.get (h : SR G ρ H S) {l : Nat} {o : Ob} (e : S[l]? = some o) : ∃ a, ρ[l]? = some a ∧ ObR G ρ H a.1 o ∧ o.mu = a.2 := by
  have hl : l < ρ.length := by rw [h.len]; exact (List.getElem?_eq_some_iff.mp e).1
  exact ⟨ρ[l], List.getElem?_eq_getElem hl, h.obj l o _ e (List.getElem?_eq_getElem hl), h.mu l o _ e (List.getElem?_eq_getElem hl)⟩
/-- an untracked new object -/
theorem SR.untracked (h : SR G ρ H S) {p : Addr} {o : HO} (hp : H p = none) : SR G ρ (upd H p o) S :=
  ⟨h.len, fun l ob a e e' => ObR.over (Mon.upd hp) (fun _ x hx => by rw [upd_ne (ne_of_none hx hp)]; exact hx) (h.obj l ob a e e'), h.mu, h.inj⟩
theorem ob_none {a : Addr} {o : Ob} (h : ObR G ρ H a o) (m : o.mu = true) : ∃ u, H a = some u := by
  cases o with
  | lst ds => obtain ⟨vs, e, _⟩ := h; exact ⟨_, e⟩
  | rol ds => cases m
  | dk kvs => obtain ⟨vs, e, _⟩ := h; exact ⟨_, e⟩
/-- a written place is tracked -/
theorem SR.there (h : SR G ρ H S) {a : Addr} (m : (a, true) ∈ ρ) : ∃ u, H a = some u := by
  obtain ⟨l, hl, e⟩ := List.getElem_of_mem m
  have e1 : ρ[l]? = some (a, true) := by rw [List.getElem?_eq_getElem hl, e]
  have hS : l < S.length := by rw [← h.len]; exact hl
  have e2 := List.getElem?_eq_getElem hS
  exact ob_none (h.obj l _ _ e2 e1) (h.mu l _ _ e2 e1)
theorem SR.fresh (h : SR G ρ H S) {p : Addr} (hp : H p = none) : (p, true) ∉ ρ := fun m => by
  obtain ⟨u, e⟩ := h.there m
  rw [hp] at e; cases e
/-- a place of its own for what is tracked already -/
theorem SR.own (h : SR G ρ H S) {p : Addr} {ob : Ob} (hp : (p, true) ∉ ρ) (m : ob.mu = true) (hob : ObR G (ρ ++ [(p, true)]) H p ob) : SR G (ρ ++ [(p, true)]) H (S ++ [ob]) := by
  have back : ∀ {k : Nat} {x : Lo}, (ρ ++ [(p, true)])[k]? = some x → (k < S.length ∧ ρ[k]? = some x) ∨ (k = S.length ∧ x = (p, true)) := by
    intro k x r
    by_cases hl : k < S.length
    · rw [List.getElem?_append_left (by rw [h.len]; exact hl)] at r
      exact .inl ⟨hl, r⟩
    · have hl2 : k = S.length := by
        have := (List.getElem?_eq_some_iff.mp r).1
        simp [h.len] at this; omega
      refine .inr ⟨hl2, ?_⟩
      subst hl2
      rw [← h.len] at r
      simp at r
      exact r.symm
  have fwd : ∀ {k : Nat} {oo : Ob}, (S ++ [ob])[k]? = some oo → (k < S.length ∧ S[k]? = some oo) ∨ (k = S.length ∧ oo = ob) := by
    intro k oo e
    by_cases hl : k < S.length
    · rw [List.getElem?_append_left hl] at e; exact .inl ⟨hl, e⟩
    · have hl2 : k = S.length := by
        have := (List.getElem?_eq_some_iff.mp e).1
        simp at this; omega
      subst hl2
      simp at e
      exact .inr ⟨rfl, e.symm⟩
  refine ⟨by simp [h.len], fun l oo a e e' => ?_, fun l oo a e e' => ?_, fun l l' a r1 r2 => ?_⟩
  · rcases fwd e with ⟨a1, a2⟩ | ⟨a1, a2⟩ <;> rcases back e' with ⟨b1, b2⟩ | ⟨b1, b2⟩
    · exact ObR.over Mon.ext (fun _ x hx => hx) (h.obj l oo a a2 b2)
    · omega
    · omega
    · subst a2 b2; exact hob
  · rcases fwd e with ⟨a1, a2⟩ | ⟨a1, a2⟩ <;> rcases back e' with ⟨b1, b2⟩ | ⟨b1, b2⟩
    · exact h.mu l oo a a2 b2
    · omega
    · omega
    · subst a2 b2; exact m
  · rcases back r1 with ⟨a1, a2⟩ | ⟨a1, a2⟩ <;> rcases back r2 with ⟨b1, b2⟩ | ⟨b1, b2⟩
    · exact h.inj l l' a a2 b2
    · cases b2; exact absurd (List.mem_of_getElem? a2) hp
    · cases a2; exact absurd (List.mem_of_getElem? b2) hp
    · omega
theorem SR.new (h : SR G ρ H S) {p : Addr} {o : HO} {ob : Ob} (hp : H p = none) (m : ob.mu = true) (hob : ObR G (ρ ++ [(p, true)]) (upd H p o) p ob) : SR G (ρ ++ [(p, true)]) (upd H p o) (S ++ [ob]) :=
  SR.own (h.untracked hp) (h.fresh hp) m hob
/-- an object is written -/
theorem SR.write (h : SR G ρ H S) {l : Nat} {a : Addr} {o u : HO} {ob' : Ob} (r : ρ[l]? = some (a, true)) (hu : H a = some u) (h1 : ∀ xs, u ≠ .tup xs) (h2 : ∀ x y, u ≠ .frz x y)
    (m' : ob'.mu = true) (hob : ObR G ρ (upd H a o) a ob') : SR G ρ (upd H a o) (S.set l ob') := by
  have st : Step ρ H ρ (upd H a o) := Step.write (List.mem_of_getElem? r) hu h1 h2
  have hl : l < S.length := by rw [← h.len]; exact (List.getElem?_eq_some_iff.mp r).1
  refine ⟨by simp [h.len], fun k oo b e1 r1 => ?_, fun k oo b e1 r1 => ?_, h.inj⟩
  · by_cases hk : k = l
    · subst hk
      rw [List.getElem?_set_self hl] at e1
      cases e1
      rw [r] at r1; cases r1
      exact hob
    · rw [List.getElem?_set_ne (Ne.symm hk)] at e1
      refine ObR.over st.toMon (fun hm x hx => ?_) (h.obj k oo b e1 r1)
      have : b.1 ≠ a := by
        intro e
        have hb := h.mu k oo b e1 r1
        rw [hm] at hb
        exact hk (h.inj k l a (by rw [r1]; exact congrArg some (Prod.ext e hb.symm)) r)
      rw [upd_ne this]; exact hx
  · by_cases hk : k = l
    · subst hk
      rw [List.getElem?_set_self hl] at e1
      cases e1
      rw [r] at r1; cases r1
      exact m'
    · rw [List.getElem?_set_ne (Ne.symm hk)] at e1
      exact h.mu k oo b e1 r1
end
end ML

namespace ML
open PySem PySem.Spec PyProof.Rows L2

abbrev En := List (Option D)
abbrev Den := En → Sto → Option (D × Sto)
abbrev TDen := En → Sto → Option (Bool × Sto)
abbrev ADen := En → Sto → Option (List D × Sto)
abbrev Op1 := D → Sto → Option (D × Sto)
abbrev Op2 := D → D → Sto → Option (D × Sto)
abbrev Fn := List D → Sto → Option (D × Sto)

structure EnR (G : Gx) (ρ : List Lo) (H : Hp) (env : En) (σ : L2.St) : Prop where
  len : env.length = σ.length
  at_ : ∀ (i : Nat) (d : D), env[i]? = some (some d) → ∃ v, σ[i]? = some (some v) ∧ Rp G ρ H d v
theorem EnR.step {G : Gx} {ρ ρ' : List Lo} {H H' : Hp} {env : En} {σ : L2.St} (h : EnR G ρ H env σ) (s : Step ρ H ρ' H') : EnR G ρ' H' env σ :=
  ⟨h.len, fun i d e => let ⟨v, a, b⟩ := h.at_ i d e; ⟨v, a, b.step s⟩⟩
theorem EnR.set {G : Gx} {ρ : List Lo} {H : Hp} {env : En} {σ : L2.St} (h : EnR G ρ H env σ) {d : D} {v : V} (r : Rp G ρ H d v) (i : Nat) : EnR G ρ H (env.set i (some d)) (σ.set i (some v)) := by
  refine ⟨by simpa using h.len, fun j e q => ?_⟩
  by_cases hj : i = j
  · subst hj
    have hi : i < env.length := by
      have := (List.getElem?_eq_some_iff.mp q).1
      simpa using this
    rw [List.getElem?_set_self hi] at q
    cases q
    exact ⟨v, by rw [List.getElem?_set_self (by rw [← h.len]; exact hi)], r⟩
  · rw [List.getElem?_set_ne hj] at q ⊢
    exact h.at_ j e q
theorem EnR.wipe {G : Gx} {ρ : List Lo} {H : Hp} {env : En} {σ : L2.St} (h : EnR G ρ H env σ) {env' : En} {σ' : L2.St} (hl : env'.length = σ'.length) (he : ∀ (i : Nat) d, env'[i]? = some (some d) → env[i]? = some (some d) ∧ σ'[i]? = σ[i]?) : EnR G ρ H env' σ' :=
  ⟨hl, fun i d e => let ⟨a, b⟩ := he i d e; let ⟨v, x, y⟩ := h.at_ i d a; ⟨v, by rw [b]; exact x, y⟩⟩

def tE (G : Gx) (f : Den) : TE := fun σ H Q => ∃ ρ env S d S', EnR G ρ H env σ ∧ SR G ρ H S ∧ f env S = some (d, S') ∧ ∀ ρ' v H', Step ρ H ρ' H' → SR G ρ' H' S' → Rp G ρ' H' d v → Q v H'
def tT (G : Gx) (f : TDen) : TT := fun σ H Q => ∃ ρ env S b S', EnR G ρ H env σ ∧ SR G ρ H S ∧ f env S = some (b, S') ∧ ∀ ρ' H', Step ρ H ρ' H' → SR G ρ' H' S' → Q b H'
def tA (G : Gx) (f : ADen) : TA := fun σ H Q => ∃ ρ env S ds S', EnR G ρ H env σ ∧ SR G ρ H S ∧ f env S = some (ds, S') ∧ ∀ ρ' vs H', Step ρ H ρ' H' → SR G ρ' H' S' → RpL G ρ' H' ds vs → Q vs H'
structure ME (X : Cx) (e : Expr) (f : Den) : Prop where
  pe : PE X e (tE (gx X) f)
structure MT (X : Cx) (e : Expr) (f : TDen) : Prop where
  pt : PT X e (tT (gx X) f)
/-- a test whatever its whole is (and, or) -/
structure MW (X : Cx) (e : Expr) (f : TDen) : Prop where
  pw : PW X e (tT (gx X) f)
structure MA (X : Cx) (es : List Expr) (f : ADen) : Prop where
  pa : PA X es (tA (gx X) f)
theorem PE.weak {X : Cx} {e : Expr} {t t' : TE} (h : PE X e t) (hw : ∀ σ H Q, t' σ H Q → t σ H Q) : PE X e t' := ⟨fun pins s σ H Q I q => h.run pins s σ H Q I (hw σ H Q q)⟩
theorem PT.weak {X : Cx} {e : Expr} {t t' : TT} (h : PT X e t) (hw : ∀ σ H Q, t' σ H Q → t σ H Q) : PT X e t' := ⟨fun pins s σ H Q I q => h.run pins s σ H Q I (hw σ H Q q)⟩
theorem PW.weak {X : Cx} {e : Expr} {t t' : TT} (h : PW X e t) (hw : ∀ σ H Q, t' σ H Q → t σ H Q) : PW X e t' := ⟨fun wh pins s σ H Q I q => h.run wh pins s σ H Q I (hw σ H Q q)⟩
theorem PA.weak {X : Cx} {e : List Expr} {t t' : TA} (h : PA X e t) (hw : ∀ σ H Q, t' σ H Q → t σ H Q) : PA X e t' := ⟨fun pos pins s σ H Q I q => h.run pos pins s σ H Q I (hw σ H Q q)⟩

section
variable {G : Gx} {f g : Den} {σ : L2.St} {H : Hp}
theorem tE.mono {Q Q' : VK} (h : tE G f σ H Q) (q : ∀ v H', Q v H' → Q' v H') : tE G f σ H Q' := by
  obtain ⟨ρ, env, S, d, S', a, b, c, k⟩ := h
  exact ⟨ρ, env, S, d, S', a, b, c, fun ρ' v H' x y z => q _ _ (k ρ' v H' x y z)⟩
/-- from one part on to the rest -/
theorem tE.bind {ρ : List Lo} {env : En} {S S1 : Sto} {d : D} {R : VK} (he : EnR G ρ H env σ) (hs : SR G ρ H S) (h : f env S = some (d, S1))
    (k : ∀ ρ' v H', Step ρ H ρ' H' → EnR G ρ' H' env σ → SR G ρ' H' S1 → Rp G ρ' H' d v → R v H') : tE G f σ H R :=
  ⟨ρ, env, S, d, S1, he, hs, h, fun ρ' v H' x y z => k ρ' v H' x (he.step x) y z⟩
end
theorem bind2 {α β γ : Type} {o : Option (α × β)} {k : α × β → Option γ} {r : γ} (h : o.bind k = some r) : ∃ x y, o = some (x, y) ∧ k (x, y) = some r := by
  obtain ⟨⟨x, y⟩, a, b⟩ := Option.bind_eq_some_iff.mp h
  exact ⟨x, y, a, b⟩

/-! ### names and constants -/
def eVar (i : Nat) : Den := fun env S => match env[i]? with
  | some (some d) => some (d, S)
  | _ => none
def eC (d : D) : Den := fun _ S => some (d, S)
section
variable {X : Cx} {pos p : Pos}
theorem me_var (i : Nat) {x : Str} (hN : X.N[i]? = some x := by rfl) (hv : Vis X.env.scope x := by first | exact Or.inl rfl | exact Or.inr (Or.inl rfl) | exact Or.inr (Or.inr rfl)) (hd : (x == ("__debug__" : Str)) = false := by decide)
    (hcd : (x == ("__classdict__" : Str)) = false := by decide) : ME X (.Name x pos) (eVar i) := by
  refine ⟨PE.weak (pe_var hN hv hd hcd) fun σ H Q h => ?_⟩
  obtain ⟨ρ, env, S, d, S', a, b, c, k⟩ := h
  unfold eVar at c
  split at c
  · rename_i d' e
    cases c
    obtain ⟨v, e1, r⟩ := a.at_ i _ e
    exact ⟨v, e1, k ρ v H (Step.refl _ _) b r⟩
  · cases c
theorem me_const {e : Expr} {v : V} {d : D} (h : PE X e (tC v)) (r : ∀ G ρ H, Rp G ρ H d v) : ME X e (eC d) := by
  refine ⟨PE.weak h fun σ H Q h => ?_⟩
  obtain ⟨ρ, env, S, d', S', a, b, c, k⟩ := h
  cases c
  exact k ρ v H (Step.refl _ _) b (r _ _ _)
theorem me_int {i j} : ME X (.Constant (.int i) j pos) (eC (.int i)) := me_const pe_int fun _ _ _ => by simp [Rp]
theorem me_bl {b j} : ME X (.Constant (.bool b) j pos) (eC (.bl b)) := me_const pe_bl fun _ _ _ => by simp [Rp]
theorem me_non {j} : ME X (.Constant .none j pos) (eC .non) := me_const pe_non fun _ _ _ => by simp [Rp]
/-- a name of the module -/
theorem me_glob {x : Str} {d : D} {v : V} {u : Value} (hg : Gl X x) (hm : X.mg x = some u) (r : RelV v u) (hr : ∀ ρ H, Rp (gx X) ρ H d v) (hd : (x == ("__debug__" : Str)) = false := by decide) : ME X (.Name x pos) (eC d) := by
  refine ⟨PE.weak (pe_glob hg hm r hd) fun σ H Q h => ?_⟩
  obtain ⟨ρ, env, S, d', S', a, b, c, k⟩ := h
  cases c
  exact k ρ v H (Step.refl _ _) b (hr _ _)
end

/-! ### operations -/
def rD (G : Gx) (g : Op2) : R2 := fun x y H Q => ∃ ρ S d1 d2 d S', SR G ρ H S ∧ Rp G ρ H d1 x ∧ Rp G ρ H d2 y ∧ g d1 d2 S = some (d, S') ∧ ∀ ρ' v H', Step ρ H ρ' H' → SR G ρ' H' S' → Rp G ρ' H' d v → Q v H'
def rU1 (G : Gx) (g : Op1) : V → Hp → VK → Prop := fun x H Q => ∃ ρ S d1 d S', SR G ρ H S ∧ Rp G ρ H d1 x ∧ g d1 S = some (d, S') ∧ ∀ ρ' v H', Step ρ H ρ' H' → SR G ρ' H' S' → Rp G ρ' H' d v → Q v H'
def rC (G : Gx) (g : Fn) : List V → Hp → VK → Prop := fun xs H Q => ∃ ρ S ds d S', SR G ρ H S ∧ RpL G ρ H ds xs ∧ g ds S = some (d, S') ∧ ∀ ρ' v H', Step ρ H ρ' H' → SR G ρ' H' S' → Rp G ρ' H' d v → Q v H'
def eOp (g : Op2) (fa fb : Den) : Den := fun env S => (fa env S).bind fun p => (fb env p.2).bind fun q => g p.1 q.1 q.2
def eUn (g : Op1) (fa : Den) : Den := fun env S => (fa env S).bind fun p => g p.1 p.2
abbrev Imp2 (G : Gx) (g : Op2) (r : R2) : Prop := ∀ x y H Q, rD G g x y H Q → r x y H Q
abbrev ImpC (G : Gx) (g : Fn) (r : List V → Hp → VK → Prop) : Prop := ∀ xs H Q, rC G g xs H Q → r xs H Q
theorem bin_imp {G : Gx} {g : Op2} {r : R2} (hi : Imp2 G g r) {fa fb : Den} {σ : L2.St} {H : Hp} {Q : VK} (h : tE G (eOp g fa fb) σ H Q) : tOp r (tE G fa) (tE G fb) σ H Q := by
  obtain ⟨ρ, env, S, d, S', he, hs, hf, q⟩ := h
  obtain ⟨x, S1, h1, hf⟩ := bind2 hf
  obtain ⟨y, S2, h2, hg⟩ := bind2 hf
  refine tE.bind he hs h1 fun ρ1 v1 H1 st1 he1 sr1 r1 => ?_
  refine tE.bind he1 sr1 h2 fun ρ2 v2 H2 st2 he2 sr2 r2 => ?_
  exact hi _ _ _ _ ⟨ρ2, S2, x, y, d, S', sr2, r1.step st2, r2, hg, fun ρ' v H' st sr rr => q ρ' v H' ((st1.trans st2).trans st) sr rr⟩
theorem un_imp {G : Gx} {g : Op1} {r : V → Hp → VK → Prop} (hi : ∀ x H Q, rU1 G g x H Q → r x H Q) {fa : Den} {σ : L2.St} {H : Hp} {Q : VK} (h : tE G (eUn g fa) σ H Q) : tUn r (tE G fa) σ H Q := by
  obtain ⟨ρ, env, S, d, S', he, hs, hf, q⟩ := h
  obtain ⟨x, S1, h1, hg⟩ := bind2 hf
  refine tE.bind he hs h1 fun ρ1 v1 H1 st1 he1 sr1 r1 => ?_
  exact hi _ _ _ ⟨ρ1, S1, x, d, S', sr1, r1, hg, fun ρ' v H' st sr rr => q ρ' v H' (st1.trans st) sr rr⟩
section
variable {X : Cx} {a b c : Expr} {fa fb fc : Den} {pos : Pos}
theorem me_op {op : Operator} {g : Op2} {r : R2} (ho : OpR X (binaryOp op) r) (hi : Imp2 (gx X) g r) (ha : ME X a fa) (hb : ME X b fb) : ME X (.BinOp a op b pos) (eOp g fa fb) :=
  ⟨PE.weak (pe_op ho ha.pe hb.pe) fun _ _ _ h => bin_imp hi h⟩
theorem me_un {op : UnaryOp} {g : Op1} {r : V → Hp → VK → Prop} (ho : UnR X (unaryOp op) r) (hi : ∀ x H Q, rU1 (gx X) g x H Q → r x H Q) (ha : ME X a fa) : ME X (.UnaryOp op a pos) (eUn g fa) :=
  ⟨PE.weak (pe_un ho ha.pe) fun _ _ _ h => un_imp hi h⟩
theorem me_cmp {op : CmpOp} {g : Op2} {r : R2} (ho : OpR X (compareOp op) r) (hi : Imp2 (gx X) g r) (ha : ME X a fa) (hb : ME X b fb) (hm : behindInMarks op b = false := by first | exact nomark _ | rfl) : ME X (.Compare a [op] [b] pos) (eOp g fa fb) :=
  ⟨PE.weak (pe_cmpR ho ha.pe hb.pe hm) fun _ _ _ h => bin_imp hi h⟩
end
end ML

namespace ML
open PySem PySem.Spec PyProof.Rows L2

/-! ### truth -/
/-- the items of a list's place, in either kind -/
def Ob.xs? : Ob → Option (List D)
  | .lst xs => some xs
  | .rol xs => some xs
  | _ => none
def lsAt (S : Sto) (l : Nat) : Option (List D) := S[l]?.bind Ob.xs?
theorem lsAt_of {G : Gx} {ρ : List Lo} {H : Hp} {S : Sto} (h : SR G ρ H S) {l : Nat} {xs : List D} (e : lsAt S l = some xs) : ∃ a vs, ρ[l]? = some a ∧ SqL G.K H a.1 vs ∧ RpL G ρ H xs vs := by
  obtain ⟨o, e1, e2⟩ := Option.bind_eq_some_iff.mp e
  obtain ⟨a, r, ob, _⟩ := h.get e1
  cases o with
  | lst ys => cases e2; obtain ⟨vs, q, rr⟩ := ob; exact ⟨a, vs, r, .inl (.inl q), rr⟩
  | rol ys => cases e2; obtain ⟨vs, q, rr⟩ := ob; exact ⟨a, vs, r, q.sq, rr⟩
  | dk _ => cases e2
def truD : D → Sto → Option Bool
  | .non, _ => some false
  | .bl b, _ => some b
  | .int i, _ => some (i != 0)
  | .str x, _ => if x.length ≤ sizeLine then some ((x.length : Int) != 0) else none
  | .tup xs, _ => some (!xs.isEmpty)
  | .loc l, S => match S[l]? with
    | some (.lst xs) => some (!xs.isEmpty)
    | some (.rol xs) => some (!xs.isEmpty)
    | some (.dk kvs) => some (!kvs.isEmpty)
    | none => none
  | _, _ => none
theorem isEmpty_L {G : Gx} {ρ : List Lo} {H : Hp} {ds : List D} {vs : List V} (h : RpL G ρ H ds vs) : ds.isEmpty = vs.isEmpty := by
  cases ds with
  | nil => simp only [RpL] at h; subst h; rfl
  | cons d r => simp only [RpL] at h; obtain ⟨v, q, rfl, _⟩ := h; rfl
theorem isEmpty_K {G : Gx} {ρ : List Lo} {H : Hp} {ds : List (Key × D)} {vs : List (Key × V)} (h : RpK G ρ H ds vs) : ds.isEmpty = vs.isEmpty := by
  cases ds with
  | nil => simp only [RpK] at h; subst h; rfl
  | cons d r => simp only [RpK] at h; obtain ⟨v, q, rfl, _⟩ := h; rfl
theorem truD_ok {G : Gx} {ρ : List Lo} {H : Hp} {S : Sto} (h : SR G ρ H S) {d : D} {v : V} {k : Bool} (r : Rp G ρ H d v) (e : truD d S = some k) : TruV G.K v H k := by
  cases d with
  | non => simp only [Rp] at r; subst r; cases e; rfl
  | bl b => simp only [Rp] at r; subst r; cases e; rfl
  | int i => simp only [Rp] at r; subst r; cases e; rfl
  | str x =>
    simp only [Rp] at r; subst r
    simp only [truD] at e
    by_cases h1 : x.length ≤ sizeLine
    · rw [if_pos h1] at e; cases e; exact ⟨h1, rfl⟩
    · rw [if_neg h1] at e; cases e
  | tup xs =>
    simp only [Rp] at r
    obtain ⟨a, vs, rfl, q, rr⟩ := r
    cases e
    exact .inr (.inl ⟨vs, q, by rw [isEmpty_L rr]⟩)
  | loc l =>
    simp only [Rp] at r
    obtain ⟨a, hr, rfl⟩ := r
    simp only [truD] at e
    split at e
    · rename_i xs e1; cases e
      obtain ⟨vs, q, rr⟩ := h.obj _ _ _ e1 hr
      exact .inl ⟨vs, .inl (.inl q), by rw [isEmpty_L rr]⟩
    · rename_i xs e1; cases e
      obtain ⟨vs, q, rr⟩ := h.obj _ _ _ e1 hr
      exact .inl ⟨vs, q.sq, by rw [isEmpty_L rr]⟩
    · rename_i xs e1; cases e
      obtain ⟨vs, q, rr⟩ := h.obj _ _ _ e1 hr
      exact .inr (.inr ⟨vs, q, by rw [isEmpty_K rr]⟩)
    · cases e
  | ty n => cases e
  | fn x => cases e

/-! ### tests -/
def tTru (f : Den) : TDen := fun env S => (f env S).bind fun p => (truD p.1 p.2).map fun k => (k, p.2)
def asB (f : Den) : TDen := fun env S => (f env S).bind fun p => match p.1 with
  | .bl b => some (b, p.2)
  | _ => none
def tAnd (f g : TDen) : TDen := fun env S => (f env S).bind fun p => if p.1 = true then g env p.2 else some (false, p.2)
def tOr (f g : TDen) : TDen := fun env S => (f env S).bind fun p => if p.1 = true then some (true, p.2) else g env p.2
def tNot (f : TDen) : TDen := fun env S => (f env S).bind fun p => some (!p.1, p.2)
theorem tT.bind {G : Gx} {f : TDen} {σ : L2.St} {H : Hp} {ρ : List Lo} {env : En} {S S1 : Sto} {b : Bool} {R : Bool → Hp → Prop} (he : EnR G ρ H env σ) (hs : SR G ρ H S) (h : f env S = some (b, S1))
    (k : ∀ ρ' H', Step ρ H ρ' H' → EnR G ρ' H' env σ → SR G ρ' H' S1 → R b H') : tT G f σ H R :=
  ⟨ρ, env, S, b, S1, he, hs, h, fun ρ' H' x y => k ρ' H' x (he.step x) y⟩
section
variable {X : Cx} {a b c : Expr} {fa fb fc : Den} {ta tb : TDen} {rest : List Expr} {pos : Pos}
theorem mt_val (ha : ME X a fa) (he : ∀ whole, isTrue a X.env whole = (do let v ← whole; standAt a.pos; holding [v] (truthy v)) := by intro _; rfl) : MT X a (tTru fa) := by
  refine ⟨PT.weak (pt_truth ha.pe he) fun σ H Q h => ?_⟩
  obtain ⟨ρ, env, S, k, S', he, hs, hf, q⟩ := h
  obtain ⟨x, S1, h1, h2⟩ := bind2 hf
  obtain ⟨k', h3, h4⟩ := Option.map_eq_some_iff.mp h2
  cases h4
  refine tE.bind he hs h1 fun ρ1 v1 H1 st1 he1 sr1 r1 => ?_
  exact ⟨k, truD_ok sr1 r1 h3, q ρ1 H1 st1 sr1⟩
theorem rp_bl {G : Gx} {ρ : List Lo} {H : Hp} {b : Bool} {v : V} (h : Rp G ρ H (.bl b) v) : v = .bl b := by simpa only [Rp] using h
theorem rp_int {G : Gx} {ρ : List Lo} {H : Hp} {b : Int} {v : V} (h : Rp G ρ H (.int b) v) : v = .int b := by simpa only [Rp] using h
theorem rp_str {G : Gx} {ρ : List Lo} {H : Hp} {b : Str} {v : V} (h : Rp G ρ H (.str b) v) : v = .str b := by simpa only [Rp] using h
theorem rp_non {G : Gx} {ρ : List Lo} {H : Hp} {v : V} (h : Rp G ρ H .non v) : v = .non := by simpa only [Rp] using h
theorem rp_of_bl {G : Gx} {ρ : List Lo} {H : Hp} (b : Bool) : Rp G ρ H (.bl b) (.bl b) := by simp only [Rp]
theorem rp_of_int {G : Gx} {ρ : List Lo} {H : Hp} (b : Int) : Rp G ρ H (.int b) (.int b) := by simp only [Rp]
theorem rp_of_str {G : Gx} {ρ : List Lo} {H : Hp} (b : Str) : Rp G ρ H (.str b) (.str b) := by simp only [Rp]
theorem rp_of_non {G : Gx} {ρ : List Lo} {H : Hp} : Rp G ρ H .non .non := by simp only [Rp]
theorem asB_some {f : Den} {env : En} {S S' : Sto} {k : Bool} (h : asB f env S = some (k, S')) : f env S = some (.bl k, S') := by
  obtain ⟨x, S1, h1, h2⟩ := bind2 h
  cases x <;> first | cases h2 | skip
  exact h1
theorem mt_cmp {op : CmpOp} {g : Op2} {r : R2} (ho : OpR X (compareOp op) r) (hi : Imp2 (gx X) g r) (ha : ME X a fa) (hb : ME X b fb) (hm : behindInMarks op b = false := by first | exact nomark _ | rfl) : MT X (.Compare a [op] [b] pos) (asB (eOp g fa fb)) := by
  refine ⟨PT.weak (pt_cmpR ho ha.pe hb.pe hm) fun σ H Q h => ?_⟩
  obtain ⟨ρ, env, S, k, S', he, hs, hf, q⟩ := h
  refine bin_imp hi ⟨ρ, env, S, .bl k, S', he, hs, asB_some hf, fun ρ' v H' st sr rr => ⟨k, rp_bl rr, q ρ' H' st sr⟩⟩
theorem mw_and1 (ha : MT X a ta) : MW X (.BoolOp .And [a] pos) ta := ⟨pw_and1 ha.pt⟩
theorem mw_or1 (ha : MT X a ta) : MW X (.BoolOp .Or [a] pos) ta := ⟨pw_or1 ha.pt⟩
theorem mw_and (ha : MT X a ta) (hb : MW X (.BoolOp .And (b :: rest) pos) tb) : MW X (.BoolOp .And (a :: b :: rest) pos) (tAnd ta tb) := by
  refine ⟨PW.weak (pw_and ha.pt hb.pw) fun σ H Q h => ?_⟩
  obtain ⟨ρ, env, S, k, S', he, hs, hf, q⟩ := h
  obtain ⟨x, S1, h1, h2⟩ := bind2 hf
  refine tT.bind he hs h1 fun ρ1 H1 st1 he1 sr1 => ?_
  cases x with
  | true => exact tT.bind he1 sr1 h2 fun ρ2 H2 st2 he2 sr2 => q ρ2 H2 (st1.trans st2) sr2
  | false => cases h2; exact q ρ1 H1 st1 sr1
theorem mw_or (ha : MT X a ta) (hb : MW X (.BoolOp .Or (b :: rest) pos) tb) : MW X (.BoolOp .Or (a :: b :: rest) pos) (tOr ta tb) := by
  refine ⟨PW.weak (pw_or ha.pt hb.pw) fun σ H Q h => ?_⟩
  obtain ⟨ρ, env, S, k, S', he, hs, hf, q⟩ := h
  obtain ⟨x, S1, h1, h2⟩ := bind2 hf
  refine tT.bind he hs h1 fun ρ1 H1 st1 he1 sr1 => ?_
  cases x with
  | false => exact tT.bind he1 sr1 h2 fun ρ2 H2 st2 he2 sr2 => q ρ2 H2 (st1.trans st2) sr2
  | true => cases h2; exact q ρ1 H1 st1 sr1
theorem mt_bool {op : BoolOp} {es : List Expr} (h : MW X (.BoolOp op es pos) ta) : MT X (.BoolOp op es pos) ta := ⟨h.pw.pt⟩
/-! values -/
def eAnd (f g : Den) : Den := fun env S => (f env S).bind fun p => (truD p.1 p.2).bind fun k => if k = true then g env p.2 else some p
def eOr (f g : Den) : Den := fun env S => (f env S).bind fun p => (truD p.1 p.2).bind fun k => if k = true then some p else g env p.2
def eNot (f : Den) : Den := fun env S => (f env S).bind fun p => (truD p.1 p.2).bind fun k => some (.bl (!k), p.2)
def eIf (t : TDen) (f g : Den) : Den := fun env S => (t env S).bind fun p => if p.1 = true then f env p.2 else g env p.2
theorem me_if (hc : MT X c ta) (ha : ME X a fa) (hb : ME X b fb) : ME X (.IfExp c a b pos) (eIf ta fa fb) := by
  refine ⟨PE.weak (pe_ifExp hc.pt ha.pe hb.pe) fun σ H Q h => ?_⟩
  obtain ⟨ρ, env, S, k, S', he, hs, hf, q⟩ := h
  obtain ⟨x, S1, h1, h2⟩ := bind2 hf
  refine tT.bind he hs h1 fun ρ1 H1 st1 he1 sr1 => ?_
  cases x with
  | true => exact tE.bind he1 sr1 h2 fun ρ2 v2 H2 st2 he2 sr2 r2 => q ρ2 v2 H2 (st1.trans st2) sr2 r2
  | false => exact tE.bind he1 sr1 h2 fun ρ2 v2 H2 st2 he2 sr2 r2 => q ρ2 v2 H2 (st1.trans st2) sr2 r2
end

/-! ### arguments, displays, calls -/
def aNil : ADen := fun _ S => some ([], S)
def aCons (f : Den) (g : ADen) : ADen := fun env S => (f env S).bind fun p => (g env p.2).bind fun q => some (p.1 :: q.1, q.2)
theorem tA.bind {G : Gx} {f : ADen} {σ : L2.St} {H : Hp} {ρ : List Lo} {env : En} {S S1 : Sto} {b : List D} {R : List V → Hp → Prop} (he : EnR G ρ H env σ) (hs : SR G ρ H S) (h : f env S = some (b, S1))
    (k : ∀ ρ' vs H', Step ρ H ρ' H' → EnR G ρ' H' env σ → SR G ρ' H' S1 → RpL G ρ' H' b vs → R vs H') : tA G f σ H R :=
  ⟨ρ, env, S, b, S1, he, hs, h, fun ρ' vs H' x y z => k ρ' vs H' x (he.step x) y z⟩
section
variable {X : Cx} {e : Expr} {es : List Expr} {fe : Den} {fs : ADen} {pos : Pos}
theorem ma_nil : MA X [] aNil := by
  refine ⟨PA.weak pa_nil fun σ H Q h => ?_⟩
  obtain ⟨ρ, env, S, k, S', he, hs, hf, q⟩ := h
  cases hf
  exact q ρ [] H (Step.refl _ _) hs RpL.nil
theorem ma_cons (ha : ME X e fe) (hr : MA X es fs) (hs : starEach (e :: es) X.env = (false, eval e X.env) :: starEach es X.env := by rfl) : MA X (e :: es) (aCons fe fs) := by
  refine ⟨PA.weak (pa_cons ha.pe hr.pa hs) fun σ H Q h => ?_⟩
  obtain ⟨ρ, env, S, k, S', he, hs, hf, q⟩ := h
  obtain ⟨x, S1, h1, hf⟩ := bind2 hf
  obtain ⟨y, S2, h2, hf⟩ := bind2 hf
  cases hf
  refine tE.bind he hs h1 fun ρ1 v1 H1 st1 he1 sr1 r1 => ?_
  exact tA.bind he1 sr1 h2 fun ρ2 vs H2 st2 he2 sr2 r2 => q ρ2 _ H2 (st1.trans st2) sr2 (RpL.cons (r1.step st2) r2)
def eTup (f : ADen) : Den := fun env S => (f env S).bind fun p => if p.1.length ≤ sizeLine then some (.tup p.1, p.2) else none
theorem rp_tup {G : Gx} {ρ : List Lo} {H : Hp} {p : Addr} {ds : List D} {vs : List V} (hp : H p = none) (r : RpL G ρ H ds vs) : Rp G ρ (upd H p (.tup vs)) (.tup ds) (.ref p) := by
  simp only [Rp]
  exact ⟨p, vs, rfl, .inl (.inl upd_same), r.step (Step.untracked hp)⟩
theorem rp_loc {G : Gx} {ρ : List Lo} {H : Hp} {p : Addr} {S : Sto} (h : SR G ρ H S) {H' : Hp} : Rp G (ρ ++ [(p, true)]) H' (.loc S.length) (.ref p) := by
  simp only [Rp]
  exact ⟨(p, true), by rw [← h.len]; simp, rfl⟩
theorem SR.newL {G : Gx} {ρ : List Lo} {H : Hp} {p : Addr} {S : Sto} (h : SR G ρ H S) (hp : H p = none) {ds : List D} {vs : List V} (r : RpL G ρ H ds vs) : SR G (ρ ++ [(p, true)]) (upd H p (.lst vs)) (S ++ [.lst ds]) :=
  h.new hp rfl ⟨vs, upd_same, r.step (Step.newloc hp)⟩
theorem me_tup {k : Nat} (h : MA X es fs) : ME X (.Tuple es k pos) (eTup fs) := by
  refine ⟨PE.weak (pe_tup h.pa) fun σ H Q h => ?_⟩
  obtain ⟨ρ, env, S, d, S', he, hs, hf, q⟩ := h
  obtain ⟨x, S1, h1, hf⟩ := bind2 hf
  split at hf
  · cases hf
    rename_i hz
    refine tA.bind he hs h1 fun ρ1 vs H1 st1 he1 sr1 r1 => ⟨by rw [r1.length]; exact hz, fun p hp => ?_⟩
    exact q ρ1 _ _ (st1.trans (Step.untracked hp)) (sr1.untracked hp) (rp_tup hp r1)
  · cases hf
/-- a call by values -/
def eCall (g : Fn) (f : ADen) : Den := fun env S => (f env S).bind fun p => g p.1 p.2
/-- what a def promises: its function on data -/
def spD (G : Gx) (g : Fn) : Sp := fun vs H Q _ => rC G g vs H Q
theorem call_imp {G : Gx} {g : Fn} {r : List V → Hp → VK → Prop} (hi : ImpC G g r) {σ : L2.St} {H : Hp} {Q : VK} (h : tE G (eCall g fs) σ H Q) : tCB r (tA G fs) σ H Q := by
  obtain ⟨ρ, env, S, d, S', he, hs, hf, q⟩ := h
  obtain ⟨x, S1, h1, hf⟩ := bind2 hf
  refine tA.bind he hs h1 fun ρ1 vs H1 st1 he1 sr1 r1 => ?_
  exact hi _ _ _ ⟨ρ1, S1, x, d, S', sr1, r1, hf, fun ρ' v H' st sr rr => q ρ' v H' (st1.trans st) sr rr⟩
theorem me_call {k k' : Nat} {f : Addr} {fd : FuncData} {ps : List Str} {g : Fn} {x : Str} {p : Pos} (F : FnOk X.prog X.w X.K X.mg X.base CX0 k f fd ps (spD (gx X) g)) (hr : Room k' X.A) (hk' : k ≤ k') (hg : Gl X x) (hm : X.mg x = some (.ref f)) (hk : PySem.W.keepIn X.K (.ref f) = true) (hb : Binds X.K fd ps []) (ha : MA X (e :: es) fs)
    (hdb : (x == ("__debug__" : Str)) = false := by decide) (he : starEach (e :: es) X.env = (false, eval e X.env) :: starEach es X.env := by rfl) (hpl : (backTo pos (starEach es X.env)).any (·.1) = false := by rfl) :
    ME X (.Call (.Name x p) (e :: es) [] pos) (eCall g fs) := by
  refine ⟨PE.weak (pe_call F (hr.mono hk') hg hm hk hb .nil pass0 ha.pa hdb he hpl) fun σ H Q h => ?_⟩
  have z := call_imp (r := rC (gx X) g) (fun _ _ _ h => h) h
  unfold tCall
  unfold tCB at z
  simpa [spD] using z
/-- a built-in def by its name -/
theorem me_callB {id : String} {g : Fn} {r : List V → Hp → VK → Prop} {x : Str} {p : Pos} (hc : CallR X (.builtin id) r) (hi : ImpC (gx X) g r) (hg : Gl X x) (hm : X.mg x = none) (hv : bootBuiltins x = some (.builtin id)) (ha : MA X (e :: es) fs) (hn : x ≠ "__name__" := by decide) (hdb : (x == ("__debug__" : Str)) = false := by decide)
    (he : starEach (e :: es) X.env = (false, eval e X.env) :: starEach es X.env := by rfl) (hpl : (backTo pos (starEach es X.env)).any (·.1) = false := by rfl) : ME X (.Call (.Name x p) (e :: es) [] pos) (eCall g fs) :=
  ⟨PE.weak (pe_callB hc hg hm hv ha.pa hn hdb he hpl) fun _ _ _ h => call_imp hi h⟩
theorem me_callTy {id : String} {g : Fn} {r : List V → Hp → VK → Prop} {x : Str} {p : Pos} (hc : CallR X (.type id) r) (hi : ImpC (gx X) g r) (hg : Gl X x) (hm : X.mg x = none) (hv : bootBuiltins x = some (.type id)) (ha : MA X (e :: es) fs) (hn : x ≠ "__name__" := by decide) (hdb : (x == ("__debug__" : Str)) = false := by decide)
    (he : starEach (e :: es) X.env = (false, eval e X.env) :: starEach es X.env := by rfl) (hpl : (backTo pos (starEach es X.env)).any (·.1) = false := by rfl) : ME X (.Call (.Name x p) (e :: es) [] pos) (eCall g fs) :=
  ⟨PE.weak (pe_callTy hc hg hm hv ha.pa hn hdb he hpl) fun _ _ _ h => call_imp hi h⟩
end
end ML

namespace ML
open PySem PySem.Spec PyProof.Rows L2

/-! ### arithmetic -/
def wideM (i j : Int) : Prop := i.natAbs.log2 + j.natAbs.log2 < 1000000
instance (i j : Int) : Decidable (wideM i j) := by unfold wideM; infer_instance
def wideD (j : Int) : Prop := j ≠ 0 ∧ j.natAbs.log2 < 9000
instance (j : Int) : Decidable (wideD j) := by unfold wideD; infer_instance
def gAdd : Op2
  | .int i, .int j, S => some (.int (i + j), S)
  | .str x, .str y, S => if x.length + y.length ≤ sizeLine then some (.str (x ++ y), S) else none
  | .tup x, .tup y, S => if x.length + y.length ≤ sizeLine then some (.tup (x ++ y), S) else none
  | .loc l, .loc m, S => match S[l]?, S[m]? with
    | some (.lst x), some (.lst y) => if x.length + y.length ≤ sizeLine then some (.loc S.length, S ++ [.lst (x ++ y)]) else none
    | _, _ => none
  | _, _, _ => none
def gSub : Op2
  | .int i, .int j, S => some (.int (i - j), S)
  | _, _, _ => none
def gMul : Op2
  | .int i, .int j, S => if wideM i j then some (.int (i * j), S) else none
  | .loc l, .int k, S => match S[l]? with
    | some (.lst x) => if -(2 ^ 63) ≤ k ∧ k < 2 ^ 63 ∧ x.length * k.toNat ≤ sizeLine then some (.loc S.length, S ++ [.lst (List.replicate k.toNat x).flatten]) else none
    | _ => none
  | .tup x, .int k, S => if x ≠ [] ∧ 2 ≤ k ∧ k ≤ 1000 ∧ x.length ≤ 1000 then some (.tup (List.replicate k.toNat x).flatten, S) else none
  | _, _, _ => none
def gFdiv : Op2
  | .int i, .int j, S => if wideD j then some (.int (i.fdiv j), S) else none
  | _, _, _ => none
def gMod : Op2
  | .int i, .int j, S => if j ≠ 0 then some (.int (i.fmod j), S) else none
  | _, _, _ => none
def gPow : Op2
  | .int i, .int j, S => if 0 ≤ j ∧ j ≤ 1000000 ∧ i.natAbs < 2 ^ 64 then some (.int (i ^ j.toNat), S) else none
  | _, _, _ => none
def gNeg : Op1
  | .int i, S => some (.int (-i), S)
  | _, _ => none
section
variable {X : Cx}
theorem op_fdivA : OpR X (binaryOp .FloorDiv) (rI (fun _ j => wideD j) fun i j => .int (i.fdiv j)) := opI fun _ _ _ _ _ _ _ hc q => floordiv_int hc.1 q (.inl (PyProof.noPylong_of_log2 hc.2))
variable {G : Gx}
theorem rI_of {C : Int → Int → Prop} {f : Int → Int → Int} {g : Op2} (hg : ∀ a b S d S', g a b S = some (d, S') → ∃ i j, a = .int i ∧ b = .int j ∧ C i j ∧ d = .int (f i j) ∧ S' = S) : Imp2 G g (rI C fun i j => .int (f i j)) := by
  rintro x y H Q ⟨ρ, S, d1, d2, d, S', hs, r1, r2, h, q⟩
  obtain ⟨i, j, rfl, rfl, hc, rfl, rfl⟩ := hg _ _ _ _ _ h
  exact ⟨i, j, rp_int r1, rp_int r2, hc, q ρ _ H (Step.refl _ _) hs (rp_of_int _)⟩
theorem rp_vs {ρ : List Lo} {H : Hp} {ds : List D} {v : V} (h : Rp G ρ H (.tup ds) v) : ∃ a vs, v = .ref a ∧ SqT G.K H a vs ∧ RpL G ρ H ds vs := by simpa only [Rp] using h
theorem rp_lc {ρ : List Lo} {H : Hp} {l : Nat} {v : V} (h : Rp G ρ H (.loc l) v) : ∃ a, ρ[l]? = some a ∧ v = .ref a.1 := by simpa only [Rp] using h
theorem RpL.nil_iff {ρ : List Lo} {H : Hp} {ds : List D} {vs : List V} (h : RpL G ρ H ds vs) : ds = [] ↔ vs = [] := by
  have := h.length
  constructor
  · intro e; subst e; exact List.eq_nil_of_length_eq_zero this
  · intro e; subst e; exact List.eq_nil_of_length_eq_zero this.symm
theorem RpL.rep {ρ : List Lo} {H : Hp} {ds : List D} {vs : List V} (h : RpL G ρ H ds vs) : ∀ n : Nat, RpL G ρ H (List.replicate n ds).flatten (List.replicate n vs).flatten
  | 0 => RpL.nil
  | n + 1 => by
    rw [List.replicate_succ, List.flatten_cons, List.replicate_succ, List.flatten_cons]
    exact h.append (RpL.rep h n)
def rStrAdd : R2 := fun x y H Q => ∃ i j, x = .str i ∧ y = .str j ∧ i.length + j.length ≤ sizeLine ∧ Q (.str (i ++ j)) H
def rAddAll (K : PySem.W.Frag) : R2 := fun x y H Q => rI0 (fun i j => .int (i + j)) x y H Q ∨ (rStrAdd x y H Q ∨ (rCatA K x y H Q ∨ rCat x y H Q))
theorem op_addAll : OpR X (binaryOp .Add) (rAddAll X.K) := op_add.or (op_add_str.or (op_catA.or op_cat))
theorem imp_add : Imp2 G gAdd (rAddAll G.K) := by
  rintro x y H Q ⟨ρ, S, d1, d2, d, S', hs, r1, r2, h, q⟩
  unfold gAdd at h
  split at h
  · cases h; exact .inl ⟨_, _, rp_int r1, rp_int r2, q ρ _ H (Step.refl _ _) hs (rp_of_int _)⟩
  · split at h
    · cases h; rename_i hz
      exact .inr (.inl ⟨_, _, rp_str r1, rp_str r2, hz, q ρ _ H (Step.refl _ _) hs (rp_of_str _)⟩)
    · cases h
  · split at h
    · cases h; rename_i hz
      obtain ⟨a, vs, rfl, q1, l1⟩ := rp_vs r1
      obtain ⟨b, ws, rfl, q2, l2⟩ := rp_vs r2
      refine .inr (.inr (.inl ⟨a, b, vs, ws, rfl, rfl, q1, q2, by rw [l1.length, l2.length]; exact hz, fun e => ?_, fun e1 e2 => ?_, fun e1 e2 p hp => ?_⟩))
      · have := l1.nil_iff.mpr e
        subst this
        exact q ρ _ H (Step.refl _ _) hs r2
      · have := l2.nil_iff.mpr e2
        subst this
        rw [List.append_nil] at q
        exact q ρ _ H (Step.refl _ _) hs r1
      · exact q ρ _ _ (Step.untracked hp) (hs.untracked hp) (rp_tup hp (l1.append l2))
    · cases h
  · rename_i l m S
    split at h
    · rename_i x1 y1 e1 e2
      split at h
      · cases h; rename_i hz
        obtain ⟨a, h1, rfl⟩ := rp_lc r1
        obtain ⟨b, h2, rfl⟩ := rp_lc r2
        obtain ⟨vs, q1, l1⟩ := hs.obj _ _ _ e1 h1
        obtain ⟨ws, q2, l2⟩ := hs.obj _ _ _ e2 h2
        refine .inr (.inr (.inr ⟨a.1, b.1, vs, ws, rfl, rfl, q1, q2, by rw [l1.length, l2.length]; exact hz, fun p hp => ?_⟩))
        exact q _ _ _ (Step.newloc hp) (hs.newL hp (l1.append l2)) (rp_loc hs)
      · cases h
    · cases h
  · cases h
theorem imp_sub : Imp2 G gSub (rI0 fun i j => .int (i - j)) := by
  rintro x y H Q ⟨ρ, S, d1, d2, d, S', hs, r1, r2, h, q⟩
  unfold gSub at h
  split at h
  · cases h; exact ⟨_, _, rp_int r1, rp_int r2, q ρ _ H (Step.refl _ _) hs (rp_of_int _)⟩
  · cases h
def rMulAll (K : PySem.W.Frag) : R2 := fun x y H Q => rI CMulW (fun i j => .int (i * j)) x y H Q ∨ (rRep x y H Q ∨ rRepT K x y H Q)
theorem op_mulAll : OpR X (binaryOp .Mult) (rMulAll X.K) := op_mulW.or (op_rep.or op_repT)
theorem imp_mul : Imp2 G gMul (rMulAll G.K) := by
  rintro x y H Q ⟨ρ, S, d1, d2, d, S', hs, r1, r2, h, q⟩
  unfold gMul at h
  split at h
  · split at h
    · cases h; rename_i hz
      exact .inl ⟨_, _, rp_int r1, rp_int r2, hz, q ρ _ H (Step.refl _ _) hs (rp_of_int _)⟩
    · cases h
  · split at h
    · rename_i x1 e1
      split at h
      · cases h; rename_i hz
        obtain ⟨a, h1, rfl⟩ := rp_lc r1
        obtain ⟨vs, q1, l1⟩ := hs.obj _ _ _ e1 h1
        have e := rp_int r2
        subst e
        refine .inr (.inl ⟨a.1, _, vs, rfl, rfl, q1, hz.1, hz.2.1, by rw [l1.length]; exact hz.2.2, fun p hp => ?_⟩)
        exact q _ _ _ (Step.newloc hp) (hs.newL hp (l1.rep _)) (rp_loc hs)
      · cases h
    · cases h
  · split at h
    · cases h; rename_i hz
      obtain ⟨a, vs, rfl, q1, l1⟩ := rp_vs r1
      have e := rp_int r2
      subst e
      refine .inr (.inr ⟨a, _, vs, rfl, rfl, q1, fun e => hz.1 (l1.nil_iff.mpr e), hz.2.1, hz.2.2.1, by rw [l1.length]; exact hz.2.2.2, fun p hp => ?_⟩)
      exact q ρ _ _ (Step.untracked hp) (hs.untracked hp) (rp_tup hp (l1.rep _))
    · cases h
  · cases h
theorem imp_fdiv : Imp2 G gFdiv (rI (fun _ j => wideD j) fun i j => .int (i.fdiv j)) := rI_of fun a b S d S' h => by
  unfold gFdiv at h
  split at h
  · split at h
    · cases h; exact ⟨_, _, rfl, rfl, by assumption, rfl, rfl⟩
    · cases h
  · cases h
theorem imp_mod : Imp2 G gMod (rI (fun _ j => j ≠ 0) fun i j => .int (i.fmod j)) := rI_of fun a b S d S' h => by
  unfold gMod at h
  split at h
  · split at h
    · cases h; exact ⟨_, _, rfl, rfl, by assumption, rfl, rfl⟩
    · cases h
  · cases h
theorem imp_pow : Imp2 G gPow (rI CPow fun i j => .int (i ^ j.toNat)) := rI_of fun a b S d S' h => by
  unfold gPow at h
  split at h
  · split at h
    · cases h; exact ⟨_, _, rfl, rfl, by assumption, rfl, rfl⟩
    · cases h
  · cases h
theorem imp_neg (x : V) (H : Hp) (Q : VK) : rU1 G gNeg x H Q → rU (fun i => .int (-i)) x H Q := by
  rintro ⟨ρ, S, d1, d, S', hs, r1, h, q⟩
  unfold gNeg at h
  split at h
  · cases h; exact ⟨_, rp_int r1, q ρ _ H (Step.refl _ _) hs (rp_of_int _)⟩
  · cases h
variable {a b c : Expr} {fa fb fc : Den} {pos : Pos}
theorem me_add (ha : ME X a fa) (hb : ME X b fb) : ME X (.BinOp a .Add b pos) (eOp gAdd fa fb) := me_op op_addAll imp_add ha hb
theorem me_sub (ha : ME X a fa) (hb : ME X b fb) : ME X (.BinOp a .Sub b pos) (eOp gSub fa fb) := me_op op_sub imp_sub ha hb
theorem me_mul (ha : ME X a fa) (hb : ME X b fb) : ME X (.BinOp a .Mult b pos) (eOp gMul fa fb) := me_op op_mulAll imp_mul ha hb
theorem me_fdiv (ha : ME X a fa) (hb : ME X b fb) : ME X (.BinOp a .FloorDiv b pos) (eOp gFdiv fa fb) := me_op op_fdivA imp_fdiv ha hb
theorem me_mod (ha : ME X a fa) (hb : ME X b fb) : ME X (.BinOp a .Mod b pos) (eOp gMod fa fb) := me_op op_modN imp_mod ha hb
theorem me_pow (ha : ME X a fa) (hb : ME X b fb) : ME X (.BinOp a .Pow b pos) (eOp gPow fa fb) := me_op op_pow imp_pow ha hb
theorem me_neg (ha : ME X a fa) : ME X (.UnaryOp .USub a pos) (eUn gNeg fa) := me_un un_neg imp_neg ha

/-! ### comparisons -/
def gCmp (p : Int → Int → Bool) : Op2
  | .int i, .int j, S => some (.bl (p i j), S)
  | _, _, _ => none
theorem imp_cmp {p : Int → Int → Bool} : Imp2 G (gCmp p) (rI0 fun i j => .bl (p i j)) := by
  rintro x y H Q ⟨ρ, S, d1, d2, d, S', hs, r1, r2, h, q⟩
  unfold gCmp at h
  split at h
  · cases h; exact ⟨_, _, rp_int r1, rp_int r2, q ρ _ H (Step.refl _ _) hs (rp_of_bl _)⟩
  · cases h
abbrev cLt : Op2 := gCmp fun i j => decide (i < j)
abbrev cGt : Op2 := gCmp fun i j => decide (j < i)
abbrev cGe : Op2 := gCmp fun i j => decide (j ≤ i)
/-! data without places -/
mutual
def toP : D → Option PyData
  | .non => some .none
  | .bl b => some (.bool b)
  | .int i => some (.int i)
  | .str x => some (.str x)
  | .tup ds => (toPL ds).map .tuple
  | _ => none
def toPL : List D → Option (List PyData)
  | [] => some []
  | d :: ds => (toP d).bind fun p => (toPL ds).map fun r => p :: r
end
mutual
theorem toP_ok {ρ : List Lo} {H : Hp} : ∀ {d : D} {v : V} {p : PyData}, toP d = some p → Rp G ρ H d v → Dp G.K H v p
  | .non, v, p, e, r => by simp only [toP] at e; simp only [Rp] at r; subst r; cases e; exact .non
  | .bl b, v, p, e, r => by simp only [toP] at e; simp only [Rp] at r; subst r; cases e; exact .bl b
  | .int i, v, p, e, r => by simp only [toP] at e; simp only [Rp] at r; subst r; cases e; exact .int i
  | .str x, v, p, e, r => by simp only [toP] at e; simp only [Rp] at r; subst r; cases e; exact .str x
  | .tup ds, v, p, e, r => by
    simp only [toP] at e
    obtain ⟨ps, h1, h2⟩ := Option.map_eq_some_iff.mp e
    subst h2
    simp only [Rp] at r
    obtain ⟨a, vs, rfl, q, l⟩ := r
    exact .tup q (toPL_ok h1 l)
  | .loc _, v, p, e, r => by simp [toP] at e
  | .ty _, v, p, e, r => by simp [toP] at e
  | .fn _, v, p, e, r => by simp [toP] at e
theorem toPL_ok {ρ : List Lo} {H : Hp} : ∀ {ds : List D} {vs : List V} {ps : List PyData}, toPL ds = some ps → RpL G ρ H ds vs → DpAll G.K H vs ps
  | [], vs, ps, e, r => by simp only [toPL] at e; simp only [RpL] at r; subst r; cases e; exact .nil
  | d :: ds, vs, ps, e, r => by
    simp only [toPL] at e
    obtain ⟨p, h1, e⟩ := Option.bind_eq_some_iff.mp e
    obtain ⟨r', h2, e⟩ := Option.map_eq_some_iff.mp e
    subst e
    simp only [RpL] at r
    obtain ⟨v, t, rfl, q, l⟩ := r
    exact .cons (toP_ok h1 q) (toPL_ok h2 l)
end
/-- .. and a list of such -/
def toPS (S : Sto) : D → Option PyData
  | .loc l => (lsAt S l).bind fun xs => (toPL xs).map .list
  | d => toP d
theorem toPS_ok {ρ : List Lo} {H : Hp} {S : Sto} (hs : SR G ρ H S) {d : D} {v : V} {p : PyData} (e : toPS S d = some p) (r : Rp G ρ H d v) : Dp G.K H v p := by
  cases d with
  | loc l =>
    simp only [toPS] at e
    obtain ⟨xs, h1, e⟩ := Option.bind_eq_some_iff.mp e
    obtain ⟨ps, h2, e⟩ := Option.map_eq_some_iff.mp e
    subst e
    obtain ⟨a, hr, rfl⟩ := rp_lc r
    obtain ⟨a', vs, hr', q, l⟩ := lsAt_of hs h1
    rw [hr] at hr'; cases hr'
    exact .lst q (toPL_ok h2 l)
  | _ => exact toP_ok (by simpa only [toPS] using e) r
def eqP (S : Sto) (a b : D) : Option Bool := (toPS S a).bind fun p => (toPS S b).bind fun q => if SeqAt.shaped p && SeqAt.shaped q then some (PyData.eqv p q) else none
def cEq : Op2 := fun a b S => (eqP S a b).map fun k => (.bl k, S)
def cNe : Op2 := fun a b S => (eqP S a b).map fun k => (.bl (!k), S)
theorem eqP_some {S : Sto} {a b : D} {k : Bool} (h : eqP S a b = some k) : ∃ p q, toPS S a = some p ∧ toPS S b = some q ∧ SeqAt.shaped p = true ∧ SeqAt.shaped q = true ∧ k = PyData.eqv p q := by
  obtain ⟨p, h1, h⟩ := Option.bind_eq_some_iff.mp h
  obtain ⟨q, h2, h⟩ := Option.bind_eq_some_iff.mp h
  split at h
  · rename_i hz
    cases h
    have := Bool.and_eq_true_iff.mp hz
    exact ⟨p, q, h1, h2, this.1, this.2, rfl⟩
  · cases h
theorem imp_eq : Imp2 G cEq (rEqD G.K) := by
  rintro x y H Q ⟨ρ, S, d1, d2, d, S', hs, r1, r2, h, q⟩
  obtain ⟨k, h1, h2⟩ := Option.map_eq_some_iff.mp h
  cases h2
  obtain ⟨p1, p2, e1, e2, s1, s2, rfl⟩ := eqP_some h1
  exact ⟨p1, p2, toPS_ok hs e1 r1, toPS_ok hs e2 r2, s1, s2, q ρ _ H (Step.refl _ _) hs (rp_of_bl _)⟩
theorem imp_ne : Imp2 G cNe (rNeD G.K) := by
  rintro x y H Q ⟨ρ, S, d1, d2, d, S', hs, r1, r2, h, q⟩
  obtain ⟨k, h1, h2⟩ := Option.map_eq_some_iff.mp h
  cases h2
  obtain ⟨p1, p2, e1, e2, s1, s2, rfl⟩ := eqP_some h1
  exact ⟨p1, p2, toPS_ok hs e1 r1, toPS_ok hs e2 r2, s1, s2, q ρ _ H (Step.refl _ _) hs (rp_of_bl _)⟩
/-! is -/
def D.isN : D → Bool
  | .non => true
  | _ => false
theorem isN_ok {ρ : List Lo} {H : Hp} {d : D} {v : V} (r : Rp G ρ H d v) : decide (v = .non) = d.isN ∨ ∃ x, d = .fn x := by
  cases d with
  | fn x => exact .inr ⟨x, rfl⟩
  | tup ds => obtain ⟨a, vs, rfl, _⟩ := rp_vs r; exact .inl rfl
  | loc l => obtain ⟨a, _, rfl⟩ := rp_lc r; exact .inl rfl
  | _ => simp only [Rp] at r; subst r; exact .inl rfl
def cIs : Op2
  | .fn _, _, _ => none
  | d, .non, S => some (.bl d.isN, S)
  | .bl a, .bl b, S => some (.bl (decide (a = b)), S)
  | _, _, _ => none
def cIsNot : Op2
  | .fn _, _, _ => none
  | d, .non, S => some (.bl (!d.isN), S)
  | .bl a, .bl b, S => some (.bl (!decide (a = b)), S)
  | _, _, _ => none
def rIsA : R2 := fun x y H Q => (y = .non ∧ Q (.bl (decide (x = .non))) H) ∨ rIsB x y H Q
def rIsNotA : R2 := fun x y H Q => (y = .non ∧ Q (.bl (!decide (x = .non))) H) ∨ rNotB x y H Q
theorem op_isA : OpR X (compareOp .Is) rIsA := op_isN.or op_isBl
theorem op_isNotA : OpR X (compareOp .IsNot) rIsNotA := op_notN.or op_notBl
theorem imp_is : Imp2 G cIs rIsA := by
  rintro x y H Q ⟨ρ, S, d1, d2, d, S', hs, r1, r2, h, q⟩
  unfold cIs at h
  split at h
  · cases h
  · rename_i hn
    cases h
    rcases isN_ok r1 with e | ⟨x, e⟩
    · exact .inl ⟨rp_non r2, by rw [e]; exact q ρ _ H (Step.refl _ _) hs (rp_of_bl _)⟩
    · exact absurd e (hn x)
  · cases h
    exact .inr ⟨_, _, rp_bl r1, rp_bl r2, q ρ _ H (Step.refl _ _) hs (rp_of_bl _)⟩
  · cases h
theorem imp_isNot : Imp2 G cIsNot rIsNotA := by
  rintro x y H Q ⟨ρ, S, d1, d2, d, S', hs, r1, r2, h, q⟩
  unfold cIsNot at h
  split at h
  · cases h
  · rename_i hn
    cases h
    rcases isN_ok r1 with e | ⟨x, e⟩
    · exact .inl ⟨rp_non r2, by rw [e]; exact q ρ _ H (Step.refl _ _) hs (rp_of_bl _)⟩
    · exact absurd e (hn x)
  · cases h
    exact .inr ⟨_, _, rp_bl r1, rp_bl r2, q ρ _ H (Step.refl _ _) hs (rp_of_bl _)⟩
  · cases h
end
end ML

namespace ML
open PySem PySem.Spec PyProof.Rows L2

/-! ### lists that nobody else holds -/
/-- e makes a new list of the told items, at no place of the store -/
def tU (G : Gx) (f : ADen) : TE := fun σ H Q => ∃ ρ env S ds S', EnR G ρ H env σ ∧ SR G ρ H S ∧ f env S = some (ds, S') ∧
  ∀ ρ' p vs H', Step ρ H ρ' H' → SR G ρ' H' S' → RpL G ρ' H' ds vs → H' p = some (.lst vs) → H p = none → (p, true) ∉ ρ' → Q (.ref p) H'
structure MU (X : Cx) (e : Expr) (f : ADen) : Prop where
  pu : PE X e (tU (gx X) f)
/-- the new list gets a place -/
def eOwn (f : ADen) : Den := fun env S => (f env S).bind fun p => some (.loc p.2.length, p.2 ++ [.lst p.1])
/-- what is done with its items at once -/
def eU (g : Fn) (f : ADen) : Den := fun env S => (f env S).bind fun p => g p.1 p.2
section
variable {G : Gx} {ρ ρ' : List Lo} {H H' : Hp} {S S' : Sto}
theorem Step.free (s : Step ρ H ρ' H') (hs : SR G ρ' H' S') {p : Addr} (hp : H' p = none) : H p = none := by
  cases q : H p with
  | none => rfl
  | some o =>
    by_cases m : (p, true) ∈ ρ
    · obtain ⟨u, e⟩ := hs.there (s.pre.subset m)
      rw [hp] at e; cases e
    · rw [s.oth p o q m] at hp; cases hp
theorem Step.keepU (s : Step ρ H ρ' H') {p : Addr} {o : HO} (h : H p = some o) (n : (p, true) ∉ ρ) : H' p = some o ∧ (p, true) ∉ ρ' :=
  ⟨s.oth p o h n, fun m => by
    rcases s.new p m with z | z
    · exact n z
    · rw [z] at h; cases h⟩
theorem tU.bind {f : ADen} {σ : L2.St} {env : En} {S S1 : Sto} {ds : List D} {R : VK} (he : EnR G ρ H env σ) (hs : SR G ρ H S) (h : f env S = some (ds, S1))
    (k : ∀ ρ' p vs H', Step ρ H ρ' H' → EnR G ρ' H' env σ → SR G ρ' H' S1 → RpL G ρ' H' ds vs → H' p = some (.lst vs) → H p = none → (p, true) ∉ ρ' → R (.ref p) H') : tU G f σ H R :=
  ⟨ρ, env, S, ds, S1, he, hs, h, fun ρ' p vs H' x y z a b c => k ρ' p vs H' x (he.step x) y z a b c⟩
theorem SR.ownL (h : SR G ρ H S) {p : Addr} {ds : List D} {vs : List V} (hp : (p, true) ∉ ρ) (e : H p = some (.lst vs)) (r : RpL G ρ H ds vs) : SR G (ρ ++ [(p, true)]) H (S ++ [.lst ds]) :=
  h.own hp rfl ⟨vs, e, RpL.mon Mon.ext r⟩
theorem Step.take (s : Step ρ H ρ' H') {p : Addr} (hp : H p = none) : Step ρ H (ρ' ++ [(p, true)]) H' :=
  ⟨⟨s.pre.trans (List.prefix_append _ _), s.tup, s.frz⟩, fun a ha => by
    rcases List.mem_append.mp ha with z | z
    · exact s.new a z
    · have e : a = p := by simpa using z
      exact .inr (e ▸ hp), s.oth⟩
end
section
variable {X : Cx} {e a b : Expr} {es : List Expr} {fe fa fb : Den} {fs fu : ADen} {pos : Pos}
theorem me_own (h : MU X e fu) : ME X e (eOwn fu) := by
  refine ⟨PE.weak h.pu fun σ H Q h => ?_⟩
  obtain ⟨ρ, env, S, d, S', he, hs, hf, q⟩ := h
  obtain ⟨x, S1, h1, hf⟩ := bind2 hf
  cases hf
  exact tU.bind he hs h1 fun ρ1 p vs H1 st1 he1 sr1 r1 e1 f1 n1 => q _ _ _ (st1.take f1) (sr1.ownL n1 e1 r1) (rp_loc sr1)
def uLst (f : ADen) : ADen := fun env S => (f env S).bind fun p => if p.1.length ≤ sizeLine then some p else none
theorem mu_lst (h : MA X es fs) : MU X (.List es pos) (uLst fs) := by
  refine ⟨PE.weak (pe_lst h.pa) fun σ H Q h => ?_⟩
  obtain ⟨ρ, env, S, d, S', he, hs, hf, q⟩ := h
  obtain ⟨x, S1, h1, hf⟩ := bind2 hf
  split at hf
  · cases hf
    rename_i hz
    refine tA.bind he hs h1 fun ρ1 vs H1 st1 he1 sr1 r1 => ⟨by rw [r1.length]; exact hz, fun p hp => ?_⟩
    exact q ρ1 p vs _ (st1.trans (Step.untracked hp)) (sr1.untracked hp) (r1.step (Step.untracked hp)) upd_same (st1.free sr1 hp) (sr1.fresh hp)
  · cases hf

/-! ### places in lists and tuples -/
def gIx : Op2
  | .tup xs, .int i, S => (atI xs i).map fun d => (d, S)
  | .loc l, .int i, S => (lsAt S l).bind fun xs => (atI xs i).map fun d => (d, S)
  | .str z, .int i, S => if z.length ≤ sizeLine then (atI z.cps.toList i).map fun c => (.str ⟨#[c]⟩, S) else none
  | _, _, _ => none
theorem atI_L {G : Gx} {ρ : List Lo} {H : Hp} {ds : List D} {vs : List V} {i : Int} {d : D} (r : RpL G ρ H ds vs) (e : atI ds i = some d) : ∃ v, atI vs i = some v ∧ Rp G ρ H d v := by
  unfold atI at e ⊢
  obtain ⟨j, h1, h2⟩ := Option.bind_eq_some_iff.mp e
  obtain ⟨v, h3, h4⟩ := r.get h2
  exact ⟨v, by rw [r.length, h1]; exact h3, h4⟩
theorem imp_ix {G : Gx} : Imp2 G gIx (rIx G.K) := by
  rintro x y H Q ⟨ρ, S, d1, d2, d, S', hs, r1, r2, h, q⟩
  unfold gIx at h
  split at h
  · obtain ⟨z, h1, h2⟩ := Option.map_eq_some_iff.mp h
    cases h2
    obtain ⟨a, vs, rfl, q1, l1⟩ := rp_vs r1
    obtain ⟨v, e1, rv⟩ := atI_L l1 h1
    exact .inr (.inl ⟨a, vs, _, v, rfl, rp_int r2, q1, e1, q ρ v H (Step.refl _ _) hs rv⟩)
  · obtain ⟨xs, h0, h⟩ := Option.bind_eq_some_iff.mp h
    obtain ⟨z, h1, h2⟩ := Option.map_eq_some_iff.mp h
    cases h2
    obtain ⟨a, hr, rfl⟩ := rp_lc r1
    obtain ⟨a', vs, hr', q1, l1⟩ := lsAt_of hs h0
    rw [hr] at hr'; cases hr'
    obtain ⟨v, e1, rv⟩ := atI_L l1 h1
    exact .inl ⟨a.1, vs, _, v, rfl, rp_int r2, q1, e1, q ρ v H (Step.refl _ _) hs rv⟩
  · split at h
    · rename_i hz
      obtain ⟨z, h1, h2⟩ := Option.map_eq_some_iff.mp h
      cases h2
      exact .inr (.inr ⟨_, _, z, rp_str r1, rp_int r2, hz, h1, q ρ _ H (Step.refl _ _) hs (rp_of_str _)⟩)
    · cases h
  · cases h
theorem me_ix (ha : ME X a fa) (hb : ME X b fb) (hs : PlainIx b := by intro _ _; rfl) : ME X (.Subscript a b pos) (eOp gIx fa fb) :=
  ⟨PE.weak (pe_ix ix_seq ha.pe hb.pe hs) fun _ _ _ h => bin_imp imp_ix h⟩
/-- [..][i] -/
def eUIx (f : ADen) (g : Den) : Den := fun env S => (f env S).bind fun p => (g env p.2).bind fun q => match q.1 with
  | .int i => (atI p.1 i).map fun d => (d, q.2)
  | _ => none
theorem me_uix (ha : MU X a fu) (hb : ME X b fb) (hs : PlainIx b := by intro _ _; rfl) : ME X (.Subscript a b pos) (eUIx fu fb) := by
  refine ⟨PE.weak (pe_ix ix_seq ha.pu hb.pe hs) fun σ H Q h => ?_⟩
  obtain ⟨ρ, env, S, d, S', he, hs, hf, q⟩ := h
  obtain ⟨x, S1, h1, hf⟩ := bind2 hf
  obtain ⟨y, S2, h2, hf⟩ := bind2 hf
  refine tU.bind he hs h1 fun ρ1 p vs H1 st1 he1 sr1 r1 e1 f1 n1 => ?_
  refine tE.bind he1 sr1 h2 fun ρ2 v2 H2 st2 he2 sr2 r2 => ?_
  cases y with
  | int i =>
    obtain ⟨z, h3, h4⟩ := Option.map_eq_some_iff.mp hf
    cases h4
    obtain ⟨v, e3, rv⟩ := atI_L r1 h3
    exact .inl ⟨p, vs, i, v, rfl, rp_int r2, .inl (.inl (st2.keepU e1 n1).1), e3, q ρ2 v H2 (st1.trans st2) sr2 (rv.step st2)⟩
  | _ => cases hf

/-! ### slices -/
abbrev ODen := En → Sto → Option (Option Int × Sto)
def tO (G : Gx) (f : ODen) : TO := fun σ H Q => ∃ ρ env S o S', EnR G ρ H env σ ∧ SR G ρ H S ∧ f env S = some (o, S') ∧ ∀ ρ' H', Step ρ H ρ' H' → SR G ρ' H' S' → Q o H'
structure MO (X : Cx) (e : Option Expr) (f : ODen) : Prop where
  po : PO X e (tO (gx X) f)
theorem PO.weak {X : Cx} {e : Option Expr} {t t' : TO} (h : PO X e t) (hw : ∀ σ H Q, t' σ H Q → t σ H Q) : PO X e t' := ⟨fun pins s σ H Q I q => h.run pins s σ H Q I (hw σ H Q q)⟩
def oNone : ODen := fun _ S => some (none, S)
def oSome (f : Den) : ODen := fun env S => (f env S).bind fun p => match p.1 with
  | .int i => some (some i, p.2)
  | _ => none
theorem mo_none : MO X none oNone := ⟨PO.weak po_none fun σ H Q h => by
  obtain ⟨ρ, env, S, d, S', he, hs, hf, q⟩ := h
  cases hf
  exact q ρ H (Step.refl _ _) hs⟩
theorem mo_some (ha : ME X a fa) : MO X (some a) (oSome fa) := ⟨PO.weak (po_some ha.pe) fun σ H Q h => by
  obtain ⟨ρ, env, S, d, S', he, hs, hf, q⟩ := h
  obtain ⟨x, S1, h1, hf⟩ := bind2 hf
  cases x with
  | int i => cases hf; exact tE.bind he hs h1 fun ρ1 v1 H1 st1 he1 sr1 r1 => ⟨i, rp_int r1, q ρ1 H1 st1 sr1⟩
  | _ => cases hf⟩
/-- xs[lo:hi] -/
def cutD {α : Type} (xs : List α) (lo hi : Option Int) : List α := (xs.drop (HT.sIx xs.length 0 lo)).take (HT.sIx xs.length xs.length hi - HT.sIx xs.length 0 lo)
theorem cut_L {G : Gx} {ρ : List Lo} {H : Hp} {ds : List D} {vs : List V} {lo hi : Option Int} (r : RpL G ρ H ds vs) : RpL G ρ H (cutD ds lo hi) (cutV vs lo hi) := by
  unfold cutD cutV
  rw [r.length]
  exact RpL.take _ (RpL.drop _ r)
variable {lo hi : Option Expr} {fl fh : ODen} {p2 : Pos}
theorem tO.bind {G : Gx} {f : ODen} {σ : L2.St} {H : Hp} {ρ : List Lo} {env : En} {S S1 : Sto} {b : Option Int} {R : Option Int → Hp → Prop} (he : EnR G ρ H env σ) (hs : SR G ρ H S) (h : f env S = some (b, S1))
    (k : ∀ ρ' H', Step ρ H ρ' H' → EnR G ρ' H' env σ → SR G ρ' H' S1 → R b H') : tO G f σ H R :=
  ⟨ρ, env, S, b, S1, he, hs, h, fun ρ' H' x y => k ρ' H' x (he.step x) y⟩
/-- xs[::-1] -/
def uRev (f : Den) : ADen := fun env S => (f env S).bind fun p => match p.1 with
  | .loc m => (lsAt p.2 m).map fun xs => (xs.reverse, p.2)
  | _ => none
theorem rev_L {G : Gx} {ρ : List Lo} {H : Hp} : ∀ {ds : List D} {vs : List V}, RpL G ρ H ds vs → RpL G ρ H ds.reverse vs.reverse
  | [], _, h => by simp only [RpL] at h; subst h; exact RpL.nil
  | d :: ds, _, h => by
    simp only [RpL] at h
    obtain ⟨v, r, rfl, q, t⟩ := h
    rw [List.reverse_cons, List.reverse_cons]
    exact (rev_L t).append (RpL.one q)
theorem mu_rev {k : Nat} {p1 p2 p3 : Pos} (ha : ME X a fa) : MU X (.Subscript a (.Slice none none (some (.UnaryOp .USub (.Constant (.int 1) k p1) p2)) p3) pos) (uRev fa) := by
  refine ⟨PE.weak (pe_revL ha.pe) fun σ H Q h => ?_⟩
  obtain ⟨ρ, env, S, d, S', he, hs, hf, q⟩ := h
  obtain ⟨x, S1, h1, hf⟩ := bind2 hf
  refine tE.bind he hs h1 fun ρ1 v1 H1 st1 he1 sr1 r1 => ?_
  cases x with
  | loc m =>
    obtain ⟨xs, h4, h5⟩ := Option.map_eq_some_iff.mp hf
    cases h5
    obtain ⟨p, hr, rfl⟩ := rp_lc r1
    obtain ⟨p', vs, hr', q1, l1⟩ := lsAt_of sr1 h4
    rw [hr] at hr'; cases hr'
    refine ⟨p.1, vs, rfl, q1, fun t ht => ?_⟩
    exact q ρ1 t _ _ (st1.trans (Step.untracked ht)) (sr1.untracked ht) ((rev_L l1).step (Step.untracked ht)) upd_same (st1.free sr1 ht) (sr1.fresh ht)
  | _ => cases hf
end
end ML

namespace ML
open PySem PySem.Spec PyProof.Rows L2

/-! ### methods of lists -/
abbrev Mt := D → List D → Sto → Option (D × Sto)
def rM (G : Gx) (g : Mt) : V → List V → Hp → VK → Prop := fun x xs H Q => ∃ ρ S d ds d' S', SR G ρ H S ∧ Rp G ρ H d x ∧ RpL G ρ H ds xs ∧ g d ds S = some (d', S') ∧ ∀ ρ' v H', Step ρ H ρ' H' → SR G ρ' H' S' → Rp G ρ' H' d' v → Q v H'
def isLs (S : Sto) : D → Bool
  | .loc l => (lsAt S l).isSome
  | _ => false
def eMt (g : Mt) (f : Den) (h : ADen) : Den := fun env S => (f env S).bind fun p => if isLs p.2 p.1 = true then (h env p.2).bind fun q => g p.1 q.1 q.2 else none
/-- the list at l becomes f of its items -/
def mAppend : Mt
  | .loc l, [d], S => match S[l]? with
    | some (.lst xs) => if xs.length < sizeLine then some (.non, S.set l (.lst (xs ++ [d]))) else none
    | _ => none
  | _, _, _ => none
section
variable {G : Gx} {ρ : List Lo} {H : Hp} {S : Sto}
theorem SR.lst (hs : SR G ρ H S) {l : Nat} {xs : List D} {a : Lo} (e : S[l]? = some (.lst xs)) (r : ρ[l]? = some a) : a.2 = true ∧ ∃ vs, H a.1 = some (.lst vs) ∧ RpL G ρ H xs vs := by
  exact ⟨(hs.mu l _ a e r).symm, hs.obj l _ a e r⟩
theorem SR.putL (hs : SR G ρ H S) {l : Nat} {xs ys : List D} {a : Lo} {vs us : List V} (e : S[l]? = some (.lst xs)) (r : ρ[l]? = some a) (hv : H a.1 = some (.lst vs)) (hu : RpL G ρ H ys us) :
    SR G ρ (upd H a.1 (.lst us)) (S.set l (.lst ys)) ∧ Step ρ H ρ (upd H a.1 (.lst us)) := by
  have m := (hs.mu l _ a e r).symm
  have r' : ρ[l]? = some (a.1, true) := by rw [r]; exact congrArg some (Prod.ext rfl m)
  have st : Step ρ H ρ (upd H a.1 (.lst us)) := Step.write (List.mem_of_getElem? r') hv (fun _ z => nomatch z) fun _ _ z => nomatch z
  exact ⟨hs.write r' hv (fun _ z => nomatch z) (fun _ _ z => nomatch z) rfl ⟨us, upd_same, hu.step st⟩, st⟩
theorem imp_append (x : V) (xs : List V) (H : Hp) (Q : VK) : rM G mAppend x xs H Q → rAppend x xs H Q := by
  rintro ⟨ρ, S, d, ds, d', S', hs, r1, r2, h, q⟩
  unfold mAppend at h
  split at h
  · split at h
    · rename_i ys e1
      split at h
      · cases h; rename_i hz
        obtain ⟨a, hr, rfl⟩ := rp_lc r1
        obtain ⟨_, vs, hv, l1⟩ := hs.lst e1 hr
        simp only [RpL] at r2
        obtain ⟨v, t, rfl, rv, rfl⟩ := r2
        obtain ⟨p1, p2⟩ := hs.putL e1 hr hv (l1.append (RpL.one rv))
        exact ⟨a.1, vs, v, rfl, rfl, hv, by rw [l1.length]; exact hz, q ρ _ _ p2 p1 rp_of_non⟩
      · cases h
    · cases h
  · cases h
end
theorem isLs_ty {G : Gx} {ρ : List Lo} {H : Hp} {S : Sto} (hs : SR G ρ H S) {d : D} {v : V} (h : isLs S d = true) (r : Rp G ρ H d v) : tyV G.K "list" v H := by
  cases d with
  | loc l =>
    obtain ⟨xs, e⟩ := Option.isSome_iff_exists.mp (show (lsAt S l).isSome = true from h)
    obtain ⟨a, hr, rfl⟩ := rp_lc r
    obtain ⟨a', vs, hr', q1, l1⟩ := lsAt_of hs e
    rw [hr] at hr'; cases hr'
    exact .inl ⟨rfl, vs, q1⟩
  | _ => cases h
section
variable {X : Cx} {o e : Expr} {es : List Expr} {fo : Den} {fs : ADen} {id : String} {name : Str} {apos cpos : Pos} {g : Mt} {r : V → List V → Hp → VK → Prop}
theorem bm_imp {G : Gx} (hi : ∀ x xs H Q, rM G g x xs H Q → r x xs H Q) {σ : L2.St} {H : Hp} {Q : VK} (h : tE G (eMt g fo fs) σ H Q) : tBM G.K "list" r (tE G fo) (tA G fs) σ H Q := by
  obtain ⟨ρ, env, S, d, S', he, hs, hf, q⟩ := h
  obtain ⟨x, S1, h1, hf⟩ := bind2 hf
  split at hf
  · rename_i hl
    obtain ⟨y, S2, h2, hf⟩ := bind2 hf
    refine tE.bind he hs h1 fun ρ1 v1 H1 st1 he1 sr1 r1 => ⟨isLs_ty sr1 hl r1, ?_⟩
    refine tA.bind he1 sr1 h2 fun ρ2 vs H2 st2 he2 sr2 r2 => ?_
    exact hi _ _ _ _ ⟨ρ2, S2, x, y, d, S', sr2, r1.step st2, r2, hf, fun ρ' v H' st sr rr => q ρ' v H' ((st1.trans st2).trans st) sr rr⟩
  · cases hf
theorem me_bm (slot : Slot "list" name id) (hty : typeOf (.builtin id) = pure (.type "method_descriptor")) (hm : MtR X id r) (hi : ∀ x xs H Q, rM (gx X) g x xs H Q → r x xs H Q) (ho : ME X o fo) (ha : MA X (e :: es) fs)
    (hbase : attributeBase o name X.env (eval o X.env) = eval o X.env := by rfl)
    (hfew : ((backTo cpos (starEach (e :: es) X.env)).all (fun x => !x.1) && (backToKw cpos (keywordEach [] X.env)).all (fun x => x.1.isSome)
      && decide ((e :: es).length + ([] : List Keyword).length + (if ([] : List Keyword).isEmpty then 0 else 1) < 30)) = true := by rfl)
    (hline : (apos.endLine == cpos.line) = true := by rfl) (hs : starEach (e :: es) X.env = (false, eval e X.env) :: starEach es X.env := by rfl) (hplain : (backTo cpos (starEach es X.env)).any (·.1) = false := by rfl) :
    ME X (.Call (.Attribute o name apos) (e :: es) [] cpos) (eMt g fo fs) :=
  ⟨PE.weak (pe_bm PySem.F.plainAttrs_list slot hty hm ho.pe ha.pa hbase hfew hline hs hplain) fun _ _ _ h => bm_imp hi h⟩
end

/-! ### built-ins -/
def bLen : Fn
  | [.str x], S => if x.length ≤ sizeLine then some (.int x.length, S) else none
  | [.tup xs], S => some (.int xs.length, S)
  | [.loc l], S => (lsAt S l).map fun xs => (.int xs.length, S)
  | _, _ => none
def bAbs : Fn
  | [.int i], S => some (.int (if i < 0 then -i else i), S)
  | _, _ => none
def bInt : Fn
  | [.int i], S => some (.int i, S)
  | [.bl k], S => some (.int (if k then 1 else 0), S)
  | _, _ => none
def bMax : Fn
  | [.int i, .int j], S => some (.int (if j > i then j else i), S)
  | _, _ => none
def bMin : Fn
  | [.int i, .int j], S => some (.int (if j < i then j else i), S)
  | _, _ => none
def bTuple : Fn
  | [.tup xs], S => some (.tup xs, S)
  | [.loc l], S => (lsAt S l).map fun xs => (.tup xs, S)
  | _, _ => none
section
variable {G : Gx} {ρ : List Lo} {H : Hp} {S : Sto}
theorem one_of {d : D} {vs : List V} (h : RpL G ρ H [d] vs) : ∃ v, vs = [v] ∧ Rp G ρ H d v := by
  simp only [RpL] at h
  obtain ⟨v, t, rfl, rv, rfl⟩ := h
  exact ⟨v, rfl, rv⟩
theorem two_of {d e : D} {vs : List V} (h : RpL G ρ H [d, e] vs) : ∃ v u, vs = [v, u] ∧ Rp G ρ H d v ∧ Rp G ρ H e u := by
  simp only [RpL] at h
  obtain ⟨v, t, rfl, rv, u, t2, rfl, ru, rfl⟩ := h
  exact ⟨v, u, rfl, rv, ru⟩
theorem imp_len : ImpC G bLen (fun xs H Q => ∃ x n, xs = [x] ∧ LenV G.K x H n ∧ Q (.int n) H) := by
  rintro xs H Q ⟨ρ, S, ds, d, S', hs, r, h, q⟩
  unfold bLen at h
  split at h
  · split at h
    · cases h; rename_i hz
      obtain ⟨v, rfl, rv⟩ := one_of r
      have := rp_str rv
      subst this
      exact ⟨_, _, rfl, ⟨hz, rfl⟩, q ρ _ H (Step.refl _ _) hs (rp_of_int _)⟩
    · cases h
  · cases h
    obtain ⟨v, rfl, rv⟩ := one_of r
    obtain ⟨a, vs, rfl, q1, l1⟩ := rp_vs rv
    exact ⟨_, _, rfl, .inr ⟨vs, q1, l1.length.symm⟩, q ρ _ H (Step.refl _ _) hs (rp_of_int _)⟩
  · obtain ⟨ys, h1, h2⟩ := Option.map_eq_some_iff.mp h
    cases h2
    obtain ⟨v, rfl, rv⟩ := one_of r
    obtain ⟨a, hr, rfl⟩ := rp_lc rv
    obtain ⟨a', vs, hr', q1, l1⟩ := lsAt_of hs h1
    rw [hr] at hr'; cases hr'
    exact ⟨_, _, rfl, .inl ⟨vs, q1, l1.length.symm⟩, q ρ _ H (Step.refl _ _) hs (rp_of_int _)⟩
  · cases h
theorem imp_abs : ImpC G bAbs (fun xs H Q => ∃ i, xs = [.int i] ∧ Q (.int (if i < 0 then -i else i)) H) := by
  rintro xs H Q ⟨ρ, S, ds, d, S', hs, r, h, q⟩
  unfold bAbs at h
  split at h
  · cases h
    obtain ⟨v, rfl, rv⟩ := one_of r
    exact ⟨_, by rw [rp_int rv], q ρ _ H (Step.refl _ _) hs (rp_of_int _)⟩
  · cases h
theorem imp_int : ImpC G bInt (fun xs H Q => (∃ i, xs = [.int i] ∧ Q (.int i) H) ∨ ∃ k, xs = [.bl k] ∧ Q (.int (if k then 1 else 0)) H) := by
  rintro xs H Q ⟨ρ, S, ds, d, S', hs, r, h, q⟩
  unfold bInt at h
  split at h
  · cases h
    obtain ⟨v, rfl, rv⟩ := one_of r
    exact .inl ⟨_, by rw [rp_int rv], q ρ _ H (Step.refl _ _) hs (rp_of_int _)⟩
  · cases h
    obtain ⟨v, rfl, rv⟩ := one_of r
    exact .inr ⟨_, by rw [rp_bl rv], q ρ _ H (Step.refl _ _) hs (rp_of_int _)⟩
  · cases h
theorem imp_tuple : ImpC G bTuple (fun xs H Q => ∃ p ys, xs = [.ref p] ∧ ((SqL G.K H p ys ∧ ∀ l, H l = none → Q (.ref l) (upd H l (.tup ys))) ∨ (SqT G.K H p ys ∧ Q (.ref p) H))) := by
  rintro xs H Q ⟨ρ, S, ds, d, S', hs, r, h, q⟩
  unfold bTuple at h
  split at h
  · cases h
    obtain ⟨v, rfl, rv⟩ := one_of r
    obtain ⟨a, vs, rfl, q1, l1⟩ := rp_vs rv
    exact ⟨a, vs, rfl, .inr ⟨q1, q ρ _ H (Step.refl _ _) hs rv⟩⟩
  · obtain ⟨ys, h1, h2⟩ := Option.map_eq_some_iff.mp h
    cases h2
    obtain ⟨v, rfl, rv⟩ := one_of r
    obtain ⟨a, hr, rfl⟩ := rp_lc rv
    obtain ⟨a', vs, hr', q1, l1⟩ := lsAt_of hs h1
    rw [hr] at hr'; cases hr'
    exact ⟨a.1, vs, rfl, .inl ⟨q1, fun p hp => q ρ _ _ (Step.untracked hp) (hs.untracked hp) (rp_tup hp l1)⟩⟩
  · cases h
end
/-! of a list that nobody else holds -/
def gTupU : Fn := fun ds S => some (.tup ds, S)
def gLenU : Fn := fun ds S => some (.int ds.length, S)
abbrev ImpU (G : Gx) (g : Fn) (r : List V → Hp → VK → Prop) : Prop := ∀ ρ S ds vs p H (Q : VK) d S', SR G ρ H S → RpL G ρ H ds vs → H p = some (.lst vs) → g ds S = some (d, S') → (∀ ρ' v H', Step ρ H ρ' H' → SR G ρ' H' S' → Rp G ρ' H' d v → Q v H') → r [.ref p] H Q
section
variable {X : Cx} {e : Expr} {fu : ADen} {g : Fn} {r : List V → Hp → VK → Prop} {x : Str} {p pos : Pos} {id : String} {G : Gx}
theorem u_imp (hi : ImpU G g r) {σ : L2.St} {H : Hp} {Q : VK} (h : tE G (eU g fu) σ H Q) : tCB r (tCons (tU G fu) tNil) σ H Q := by
  obtain ⟨ρ, env, S, d, S', he, hs, hf, q⟩ := h
  obtain ⟨y, S1, h1, hf⟩ := bind2 hf
  show tU G fu σ H fun x H1 => r [x] H1 Q
  refine tU.bind he hs h1 fun ρ1 t vs H1 st1 he1 sr1 r1 e1 f1 n1 => ?_
  exact hi ρ1 S1 y vs t H1 Q d S' sr1 r1 e1 hf fun ρ' v H' st sr rr => q ρ' v H' (st1.trans st) sr rr
theorem me_callTyU (hc : CallR X (.type id) r) (hi : ImpU (gx X) g r) (hg : Gl X x) (hm : X.mg x = none) (hv : bootBuiltins x = some (.type id)) (ha : MU X e fu) (hn : x ≠ "__name__" := by decide) (hdb : (x == ("__debug__" : Str)) = false := by decide)
    (hs : starEach [e] X.env = (false, eval e X.env) :: starEach [] X.env := by rfl) (hpl : (backTo pos (starEach [] X.env)).any (·.1) = false := by rfl) : ME X (.Call (.Name x p) [e] [] pos) (eU g fu) :=
  ⟨PE.weak (pe_callTy hc hg hm hv (pa_cons ha.pu pa_nil hs) hn hdb hs hpl) fun _ _ _ h => u_imp hi h⟩
theorem impU_tup : ImpU G gTupU (fun xs H Q => ∃ p ys, xs = [.ref p] ∧ ((SqL G.K H p ys ∧ ∀ l, H l = none → Q (.ref l) (upd H l (.tup ys))) ∨ (SqT G.K H p ys ∧ Q (.ref p) H))) := by
  rintro ρ S ds vs p H Q d S' hs r e h q
  cases h
  exact ⟨p, vs, rfl, .inl ⟨.inl (.inl e), fun l hl => q ρ _ _ (Step.untracked hl) (hs.untracked hl) (rp_tup hl r)⟩⟩
end
end ML

namespace ML
open PySem PySem.Spec PyProof.Rows L2

/-! ### targets -/
abbrev GDen := D → En → Sto → Option (En × Sto)
abbrev GsDen := List D → En → Sto → Option (En × Sto)
def tG (G : Gx) (f : GDen) : TG := fun v σ H Q => ∃ ρ env S d env' S', EnR G ρ H env σ ∧ SR G ρ H S ∧ Rp G ρ H d v ∧ f d env S = some (env', S') ∧ ∀ ρ' σ' H', Step ρ H ρ' H' → EnR G ρ' H' env' σ' → SR G ρ' H' S' → Q σ' H'
def tGs (G : Gx) (f : GsDen) : TGs := fun vs σ H Q => ∃ ρ env S ds env' S', EnR G ρ H env σ ∧ SR G ρ H S ∧ RpL G ρ H ds vs ∧ f ds env S = some (env', S') ∧ ∀ ρ' σ' H', Step ρ H ρ' H' → EnR G ρ' H' env' σ' → SR G ρ' H' S' → Q σ' H'
structure MG (X : Cx) (e : Expr) (f : GDen) : Prop where
  pg : PG X e (tG (gx X) f)
structure MGs (X : Cx) (es : List Expr) (f : GsDen) : Prop where
  pgs : PGs X es (tGs (gx X) f)
theorem PG.weak {X : Cx} {e : Expr} {t t' : TG} (h : PG X e t) (hw : ∀ v σ H Q, t' v σ H Q → t v σ H Q) : PG X e t' := ⟨fun pins s σ H v u Q I r q => h.run pins s σ H v u Q I r (hw v σ H Q q)⟩
theorem PGs.weak {X : Cx} {e : List Expr} {t t' : TGs} (h : PGs X e t) (hw : ∀ v σ H Q, t' v σ H Q → t v σ H Q) : PGs X e t' := ⟨fun pins s σ H v u Q I r q => h.run pins s σ H v u Q I r (hw v σ H Q q)⟩
def gName (i : Nat) : GDen := fun d env S => some (env.set i (some d), S)
def gNil : GsDen
  | [], env, S => some (env, S)
  | _, _, _ => none
def gCons (f : GDen) (g : GsDen) : GsDen
  | d :: r, env, S => (f d env S).bind fun p => g r p.1 p.2
  | _, _, _ => none
def gTup (n : Nat) (g : GsDen) : GDen
  | .tup ds, env, S => if ds.length = n then g ds env S else none
  | _, _, _ => none
theorem tG.bind {G : Gx} {f : GDen} {v : V} {d : D} {σ : L2.St} {H : Hp} {ρ : List Lo} {env env' : En} {S S1 : Sto} {R : L2.St → Hp → Prop} (he : EnR G ρ H env σ) (hs : SR G ρ H S) (hr : Rp G ρ H d v) (h : f d env S = some (env', S1))
    (k : ∀ ρ' σ' H', Step ρ H ρ' H' → EnR G ρ' H' env' σ' → SR G ρ' H' S1 → R σ' H') : tG G f v σ H R := ⟨ρ, env, S, d, env', S1, he, hs, hr, h, k⟩
theorem tGs.bind {G : Gx} {f : GsDen} {v : List V} {d : List D} {σ : L2.St} {H : Hp} {ρ : List Lo} {env env' : En} {S S1 : Sto} {R : L2.St → Hp → Prop} (he : EnR G ρ H env σ) (hs : SR G ρ H S) (hr : RpL G ρ H d v) (h : f d env S = some (env', S1))
    (k : ∀ ρ' σ' H', Step ρ H ρ' H' → EnR G ρ' H' env' σ' → SR G ρ' H' S1 → R σ' H') : tGs G f v σ H R := ⟨ρ, env, S, d, env', S1, he, hs, hr, h, k⟩
section
variable {X : Cx} {pos : Pos} {e o i : Expr} {es : List Expr} {f : GDen} {g : GsDen} {fo fi : Den}
theorem mg_name (i : Nat) {x : Str} (hN : X.N.Nodup) (hi : X.N[i]? = some x := by rfl) (hx : Loc X.env.scope x := by first | exact Or.inl rfl | exact Or.inr rfl) (hf : X.fn x = true ∨ X.env.scope.names.lookup x = some .local := by first | exact .inl rfl | exact .inr rfl) : MG X (.Name x pos) (gName i) := by
  refine ⟨PG.weak (pg_name hN hi hx hf) fun v σ H Q h => ?_⟩
  obtain ⟨ρ, env, S, d, env', S', he, hs, hr, h, q⟩ := h
  cases h
  exact q ρ _ H (Step.refl _ _) (he.set hr i) hs
theorem mgs_nil : MGs X [] gNil := by
  refine ⟨PGs.weak pgs_nil fun v σ H Q h => ?_⟩
  obtain ⟨ρ, env, S, d, env', S', he, hs, hr, h, q⟩ := h
  cases d with
  | nil => cases h; simp only [RpL] at hr; exact ⟨hr, q ρ σ H (Step.refl _ _) he hs⟩
  | cons _ _ => cases h
theorem mgs_cons (h1 : MG X e f) (h2 : MGs X es g) (hs : (assignEach (e :: es) X.env).map (·.2) = assign e X.env :: (assignEach es X.env).map (·.2) := by rfl) : MGs X (e :: es) (gCons f g) := by
  refine ⟨PGs.weak (pgs_cons h1.pg h2.pgs hs) fun v σ H Q h => ?_⟩
  obtain ⟨ρ, env, S, d, env', S', he, hs, hr, h, q⟩ := h
  cases d with
  | nil => cases h
  | cons d r =>
    obtain ⟨x, S1, h1, h2⟩ := bind2 (show (f d env S).bind _ = _ from h)
    simp only [RpL] at hr
    obtain ⟨w, t, rfl, rw1, rt⟩ := hr
    refine ⟨w, t, rfl, tG.bind he hs rw1 h1 fun ρ1 σ1 H1 st1 he1 sr1 => ?_⟩
    exact tGs.bind he1 sr1 (rt.step st1) h2 fun ρ2 σ2 H2 st2 he2 sr2 => q ρ2 σ2 H2 (st1.trans st2) he2 sr2
theorem mg_tup {k n : Nat} (hc : X.calm = true) (h : MGs X es g) (hn : (assignEach es X.env).length = n := by rfl) (hst : (assignEach es X.env).findIdx? (·.1) = none := by rfl) : MG X (.Tuple es k pos) (gTup n g) := by
  refine ⟨PG.weak (pg_tup hc h.pgs hn hst) fun v σ H Q h => ?_⟩
  obtain ⟨ρ, env, S, d, env', S', he, hs, hr, h, q⟩ := h
  cases d with
  | tup ds =>
    simp only [gTup] at h
    split at h
    · rename_i hl
      obtain ⟨a, vs, rfl, q1, l1⟩ := rp_vs hr
      exact ⟨a, vs, rfl, q1, by rw [l1.length]; exact hl, tGs.bind he hs l1 h q⟩
    · cases h
  | _ => cases h
/-- o[i] = .. of a list -/
def gPut (fo fi : Den) : GDen := fun d env S => (fo env S).bind fun p => (fi env p.2).bind fun q => match p.1, q.1 with
  | .loc l, .int i => match q.2[l]? with
    | some (.lst xs) => (ixN xs.length i).map fun j => (env, q.2.set l (.lst (xs.set j d)))
    | _ => none
  | _, _ => none
theorem mg_sub (ho : ME X o fo) (hi : ME X i fi)
    (ha : ∀ v, assign (.Subscript o i pos) X.env v = (do
      let ov ← holding [v] (eval o X.env)
      let iv ← holding [v, ov] (eval i X.env)
      standAt pos
      holding [v, ov, iv] (setItem ov iv v)
      release [v, ov, iv] []) := by intro _; rfl) : MG X (.Subscript o i pos) (gPut fo fi) := by
  refine ⟨PG.weak (pg_sub ho.pe hi.pe set_list ha) fun v σ H Q h => ?_⟩
  obtain ⟨ρ, env, S, d, env', S', he, hs, hr, h, q⟩ := h
  obtain ⟨x, S1, h1, h⟩ := bind2 h
  obtain ⟨y, S2, h2, h⟩ := bind2 h
  refine tE.bind he hs h1 fun ρ1 v1 H1 st1 he1 sr1 r1 => tE.bind he1 sr1 h2 fun ρ2 v2 H2 st2 he2 sr2 r2 => ?_
  simp only at h
  split at h
  · split at h
    · rename_i l i _ xs e1
      obtain ⟨j, h3, h4⟩ := Option.map_eq_some_iff.mp h
      cases h4
      obtain ⟨a, ha, rfl⟩ := rp_lc (r1.step st2)
      obtain ⟨_, vs, hv, l1⟩ := sr2.lst e1 ha
      obtain ⟨p1, p2⟩ := sr2.putL e1 ha hv (RpL.set ((hr.step st1).step st2) j l1)
      exact ⟨a.1, vs, _, j, rfl, rp_int r2, hv, by rw [l1.length]; exact h3, q ρ2 σ _ ((st1.trans st2).trans p2) (he2.step p2) p1⟩
    · cases h
  · cases h
end

/-! ### what is walked -/
structure Itb where
  ds : List D
  src : List (Nat × Ob)
abbrev IDen := En → Sto → Option (Itb × Sto)
def srcOk (src : List (Nat × Ob)) (S : Sto) : Prop := ∀ p ∈ src, S[p.1]? = some p.2
structure ItR (G : Gx) (ρ : List Lo) (H : Hp) (it : Itb) (J : It) : Prop where
  goes : ∀ i ρ2 H2 S2, i < it.ds.length → Step ρ H ρ2 H2 → SR G ρ2 H2 S2 → srcOk it.src S2 → J.go i H2
  stops : ∀ ρ2 H2 S2, Step ρ H ρ2 H2 → SR G ρ2 H2 S2 → srcOk it.src S2 → J.stop it.ds.length H2
  yields : ∀ i ρ2 H2 S2 x H3, i < it.ds.length → Step ρ H ρ2 H2 → SR G ρ2 H2 S2 → srcOk it.src S2 → J.yld i H2 x H3 → Step ρ2 H2 ρ2 H3 ∧ SR G ρ2 H3 S2 ∧ ∃ d, it.ds[i]? = some d ∧ Rp G ρ2 H3 d x
def tI (G : Gx) (f : IDen) : TI := fun σ H R => ∃ ρ env S it S', EnR G ρ H env σ ∧ SR G ρ H S ∧ f env S = some (it, S') ∧ ∀ ρ' H' J, Step ρ H ρ' H' → SR G ρ' H' S' → ItR G ρ' H' it J → R J H'
structure MI (X : Cx) (tg iter : Expr) (f : IDen) : Prop where
  pi : PI X tg iter (tI (gx X) f)
theorem PI.weak {X : Cx} {tg e : Expr} {t t' : TI} (h : PI X tg e t) (hw : ∀ σ H Q, t' σ H Q → t σ H Q) : PI X tg e t' := ⟨fun pins s σ H Q I q => h.run pins s σ H Q I (hw σ H Q q)⟩
theorem PI.or {X : Cx} {tg e : Expr} {t t' : TI} (h : PI X tg e t) (h' : PI X tg e t') : PI X tg e (fun σ H Q => t σ H Q ∨ t' σ H Q) := ⟨fun pins s σ H Q I q => q.elim (h.run pins s σ H Q I) (h'.run pins s σ H Q I)⟩
/-- a list or a tuple -/
def iSeq (f : Den) : IDen := fun env S => (f env S).bind fun p => match p.1 with
  | .tup ds => some (⟨ds, []⟩, p.2)
  | .loc l => match p.2[l]? with
    | some (.lst ds) => some (⟨ds, [(l, .lst ds)]⟩, p.2)
    | some (.rol ds) => some (⟨ds, [(l, .rol ds)]⟩, p.2)
    | _ => none
  | _ => none
def iU (f : ADen) : IDen := fun env S => (f env S).bind fun p => some (⟨p.1, []⟩, p.2)
section
variable {G : Gx} {ρ : List Lo} {H : Hp}
theorem itR_tup {a : Addr} {ds : List D} {vs : List V} (h : SqT G.K H a vs) (r : RpL G ρ H ds vs) : ItR G ρ H ⟨ds, []⟩ (Itt G.K a) where
  goes := fun i ρ2 H2 S2 hi st sr _ => by
    have hi' : i < vs.length := by rw [r.length]; exact hi
    exact ⟨vs, vs[i], st.seqT h, List.getElem?_eq_getElem hi'⟩
  stops := fun ρ2 H2 S2 st sr _ => ⟨vs, st.seqT h, by rw [r.length] <;> exact Nat.le_refl _⟩
  yields := fun i ρ2 H2 S2 x H3 hi st sr _ y => by
    obtain ⟨rfl, y⟩ := y
    have hx := y vs (st.seqT h)
    obtain ⟨v, e1, e2⟩ := r.get (List.getElem?_eq_getElem hi)
    rw [hx] at e1; cases e1
    exact ⟨Step.refl _ _, sr, _, List.getElem?_eq_getElem hi, e2.step st⟩
theorem itR_lst {a : Lo} {l : Nat} {ob : Ob} {ds : List D} (hx : ob.xs? = some ds) (hr : ρ[l]? = some a) : ItR G ρ H ⟨ds, [(l, ob)]⟩ (Itl G.K a.1) := by
  have key : ∀ ρ2 H2 S2, Step ρ H ρ2 H2 → SR G ρ2 H2 S2 → srcOk [(l, ob)] S2 → ∃ vs, SqL G.K H2 a.1 vs ∧ RpL G ρ2 H2 ds vs := by
    intro ρ2 H2 S2 st sr so
    have e : S2[l]? = some ob := so (l, ob) (by simp)
    obtain ⟨a', vs, h1, h2, h3⟩ := lsAt_of sr (show lsAt S2 l = some ds by unfold lsAt; rw [e]; exact hx)
    rw [pre_get st.pre hr] at h1; cases h1
    exact ⟨vs, h2, h3⟩
  refine ⟨fun i ρ2 H2 S2 hi st sr so => ?_, fun ρ2 H2 S2 st sr so => ?_, fun i ρ2 H2 S2 x H3 hi st sr so y => ?_⟩
  · obtain ⟨vs, h2, h3⟩ := key ρ2 H2 S2 st sr so
    have hi' : i < vs.length := by rw [h3.length]; exact hi
    exact ⟨vs, vs[i], h2, List.getElem?_eq_getElem hi'⟩
  · obtain ⟨vs, h2, h3⟩ := key ρ2 H2 S2 st sr so
    exact ⟨vs, h2, by rw [h3.length] <;> exact Nat.le_refl _⟩
  · obtain ⟨vs, h2, h3⟩ := key ρ2 H2 S2 st sr so
    obtain ⟨rfl, y⟩ := y
    have hx := y vs h2
    obtain ⟨v, e1, e2⟩ := h3.get (List.getElem?_eq_getElem hi)
    rw [hx] at e1; cases e1
    exact ⟨Step.refl _ _, sr, _, List.getElem?_eq_getElem hi, e2⟩
end
section
variable {X : Cx} {tg e a b : Expr} {fe fa fb : Den} {fu : ADen} {p pos : Pos}
theorem mi_seq (h : ME X e fe) : MI X tg e (iSeq fe) := by
  refine ⟨PI.weak (PI.or (pi_tup h.pe) (pi_list h.pe)) fun σ H R h => ?_⟩
  obtain ⟨ρ, env, S, it, S', he, hs, hf, q⟩ := h
  obtain ⟨x, S1, h1, hf⟩ := bind2 hf
  cases x with
  | tup ds =>
    cases hf
    refine .inl (tE.bind he hs h1 fun ρ1 v1 H1 st1 he1 sr1 r1 => ?_)
    obtain ⟨a, vs, rfl, q1, l1⟩ := rp_vs r1
    exact ⟨a, rfl, ⟨vs, q1⟩, q ρ1 H1 _ st1 sr1 (itR_tup q1 l1)⟩
  | loc l =>
    have hk : ∃ ob ds, S1[l]? = some ob ∧ ob.xs? = some ds ∧ it = ⟨ds, [(l, ob)]⟩ ∧ S' = S1 := by
      simp only at hf
      split at hf
      · rename_i ds e1; cases hf; exact ⟨_, _, e1, rfl, rfl, rfl⟩
      · rename_i ds e1; cases hf; exact ⟨_, _, e1, rfl, rfl, rfl⟩
      · cases hf
    obtain ⟨ob, ds, e1, e2, rfl, rfl⟩ := hk
    refine .inr (tE.bind he hs h1 fun ρ1 v1 H1 st1 he1 sr1 r1 => ?_)
    obtain ⟨a, hr, rfl⟩ := rp_lc r1
    obtain ⟨a', vs, h3, h4, h5⟩ := lsAt_of sr1 (show lsAt S' l = some ds by unfold lsAt; rw [e1]; exact e2)
    rw [hr] at h3; cases h3
    exact ⟨a.1, rfl, ⟨vs, h4⟩, q ρ1 H1 _ st1 sr1 (itR_lst e2 hr)⟩
  | _ => cases hf
/-- range -/
def rngs (lo : Int) (n : Nat) : List D := (List.range n).map fun (i : Nat) => D.int (lo + (i : Int))
def iRange1 (fa : Den) : IDen := fun env S => (fa env S).bind fun p => match p.1 with
  | .int j => if -(2 ^ 62) ≤ j ∧ j < 2 ^ 62 then some (⟨rngs 0 j.toNat, []⟩, p.2) else none
  | _ => none
theorem itR_range {G : Gx} {ρ : List Lo} {H : Hp} {lo : Int} {n : Nat} : ItR G ρ H ⟨rngs lo n, []⟩ (Itr lo n) := by
  have hl : (rngs lo n).length = n := by simp [rngs]
  refine ⟨fun i _ _ _ hi _ _ _ => by show i < n; simpa [hl] using hi, fun _ _ _ _ _ _ => by simp [hl, Itr], fun i ρ2 H2 S2 x H3 hi st sr _ y => ?_⟩
  obtain ⟨rfl, rfl⟩ := y
  refine ⟨Step.refl _ _, sr, .int (lo + i), ?_, rp_of_int _⟩
  have hi' : i < n := by simpa [hl] using hi
  simp [rngs, hi']
theorem mi_range1 (hg : Gl X "range") (hm : X.mg "range" = none) (ha : ME X a fa) (hs : starEach [a] X.env = [(false, eval a X.env)] := by rfl) (hs' : starEach [a] X.env = (false, eval a X.env) :: starEach [] X.env := by rfl) : MI X tg (.Call (.Name "range" p) [a] [] pos) (iRange1 fa) := by
  refine ⟨PI.weak (pi_range1 hg hm (pa_cons ha.pe pa_nil hs') hs) fun σ H R h => ?_⟩
  obtain ⟨ρ, env, S, it, S', he, hs, hf, q⟩ := h
  obtain ⟨x, S1, h1, hf⟩ := bind2 hf
  cases x with
  | int j =>
    simp only at hf
    split at hf
    · rename_i hz
      cases hf
      exact tE.bind he hs h1 fun ρ1 v1 H1 st1 he1 sr1 r1 => ⟨j, by rw [rp_int r1], hz.1, hz.2, q ρ1 H1 _ st1 sr1 itR_range⟩
    · cases hf
  | _ => cases hf
/-- zip of two tuples, or of two lists -/
def zipD : List D → List D → List D
  | x :: xs, y :: ys => .tup [x, y] :: zipD xs ys
  | _, _ => []
def iZip (f : ADen) : IDen := fun env S => (f env S).bind fun p => match p.1 with
  | [.tup xs, .tup ys] => some (⟨zipD xs ys, []⟩, p.2)
  | [.loc l, .loc m] => match p.2[l]?, p.2[m]? with
    | some (.lst xs), some (.lst ys) => some (⟨zipD xs ys, [(l, .lst xs), (m, .lst ys)]⟩, p.2)
    | _, _ => none
  | _ => none
end
end ML

namespace ML
open PySem PySem.Spec PyProof.Rows L2

/-! ### comprehensions -/
/-- the slots of a block's own names forgotten -/
def wipeE (env : En) : List Nat → En
  | [] => env
  | v :: vs => (wipeE env vs).set v none
theorem EnR.wiped {G : Gx} {ρ : List Lo} {H : Hp} {env : En} {σ : L2.St} (h : EnR G ρ H env σ) : ∀ vs, EnR G ρ H (wipeE env vs) (L2.wipe σ vs)
  | [] => h
  | v :: vs => by
    have ih := EnR.wiped h vs
    refine ⟨by simp [wipeE, L2.wipe, ih.len], fun i d e => ?_⟩
    unfold wipeE at e
    unfold L2.wipe
    by_cases hi : v = i
    · subst hi
      by_cases hl : v < (wipeE env vs).length
      · rw [List.getElem?_set_self hl] at e; cases e
      · rw [List.getElem?_eq_none (by simpa using hl)] at e; cases e
    · rw [List.getElem?_set_ne hi] at e ⊢
      exact ih.at_ i d e
theorem wipe_get (σ : L2.St) : ∀ (vs : List Nat) (j : Nat), (L2.wipe σ vs)[j]? = if j ∈ vs ∧ j < σ.length then some none else σ[j]?
  | [], j => by simp [L2.wipe]
  | v :: vs, j => by
    unfold L2.wipe
    by_cases hv : v = j
    · subst hv
      by_cases hl : v < σ.length
      · rw [List.getElem?_set_self (by rw [wipe_length]; exact hl), if_pos ⟨by simp, hl⟩]
      · rw [if_neg (by omega), List.getElem?_eq_none (by simp [wipe_length]; omega), List.getElem?_eq_none (by omega)]
    · rw [List.getElem?_set_ne hv, wipe_get σ vs j]
      have : (j ∈ v :: vs ∧ j < σ.length) ↔ (j ∈ vs ∧ j < σ.length) := by
        rw [List.mem_cons]
        constructor
        · rintro ⟨a | a, b⟩
          · exact absurd a.symm hv
          · exact ⟨a, b⟩
        · rintro ⟨a, b⟩; exact ⟨.inr a, b⟩
      by_cases q : j ∈ vs ∧ j < σ.length
      · rw [if_pos q, if_pos (this.mpr q)]
      · rw [if_neg q, if_neg (fun z => q (this.mp z))]
theorem wipe_set {σ : L2.St} {vs : List Nat} {i : Nat} {x : Option V} (h : i ∈ vs) : L2.wipe (σ.set i x) vs = L2.wipe σ vs := by
  apply List.ext_getElem?
  intro j
  rw [wipe_get, wipe_get, List.length_set]
  by_cases hj : j ∈ vs ∧ j < σ.length
  · rw [if_pos hj, if_pos hj]
  · rw [if_neg hj, if_neg hj]
    by_cases hi : i = j
    · subst hi
      have : ¬ i < σ.length := fun z => hj ⟨h, z⟩
      rw [List.getElem?_eq_none (by simpa using this), List.getElem?_eq_none (by omega)]
    · rw [List.getElem?_set_ne hi]
theorem wipe_wipe (σ : L2.St) (vs : List Nat) : L2.wipe (L2.wipe σ vs) vs = L2.wipe σ vs := by
  apply List.ext_getElem?
  intro j
  rw [wipe_get, wipe_length, wipe_get]
  split <;> simp_all
/-- a target's reading and its function, that store only to the told slots -/
structure GC (G : Gx) (gg : TG) (g : GDen) (vs : List Nat) : Prop where
  imp : ∀ v σ H Q, tG G g v σ H Q → gg v σ H fun σ' H' => L2.wipe σ' vs = L2.wipe σ vs ∧ Q σ' H'
theorem GC.imp' {G : Gx} {gg : TG} {g : GDen} {vs : List Nat} (h : GC G gg g vs) {v : V} {σ : L2.St} {H : Hp} {Q : L2.St → Hp → Prop} (q : tG G g v (L2.wipe σ vs) H Q) : gg v (L2.wipe σ vs) H fun σ' H' => L2.wipe σ' vs = L2.wipe σ vs ∧ Q σ' H' := by
  have z := h.imp v (L2.wipe σ vs) H Q q
  rw [wipe_wipe] at z
  exact z
theorem gc_name {G : Gx} {i : Nat} {vs : List Nat} (h : i ∈ vs) : GC G (L2.gName i) (gName i) vs := ⟨fun v σ H Q h' => by
  obtain ⟨ρ, env, S, d, env', S', he, hs, hr, hf, q⟩ := h'
  cases hf
  exact ⟨wipe_set h, q ρ _ H (Step.refl _ _) (he.set hr i) hs⟩⟩
noncomputable section
open Classical
/-- the turns of [elt for tg in it if ..] -/
def lcRun (src : List (Nat × Ob)) (tg : GDen) (t : TDen) (f : Den) (env : En) : List D → List D → Sto → Option (List D × Sto)
  | [], acc, S => if srcOk src S then some (acc, S) else none
  | d :: ds, acc, S => if srcOk src S then (tg d env S).bind fun p => (t p.1 p.2).bind fun q => if q.1 = true then (f p.1 q.2).bind fun r => if acc.length < sizeLine then lcRun src tg t f env ds (acc ++ [r.1]) r.2 else none else lcRun src tg t f env ds acc q.2 else none
def uLc (it : IDen) (tg : GDen) (t : TDen) (f : Den) (vs : List Nat) : ADen := fun env S => (it env S).bind fun p => lcRun p.1.src tg t f (wipeE env vs) p.1.ds [] p.2
end
def tYes : TDen := fun _ S => some (true, S)
structure MTs (X : Cx) (es : List Expr) (f : TDen) : Prop where
  pts : PTs X es (tT (gx X) f)
theorem PTs.weak {X : Cx} {e : List Expr} {t t' : TT} (h : PTs X e t) (hw : ∀ σ H Q, t' σ H Q → t σ H Q) : PTs X e t' := ⟨fun pins s σ H Q I q => h.run pins s σ H Q I (hw σ H Q q)⟩
section
variable {X : Cx}
theorem mts_nil : MTs X [] tYes := ⟨PTs.weak pts_nil fun σ H Q h => by
  obtain ⟨ρ, env, S, b, S', he, hs, hf, q⟩ := h
  cases hf
  exact q ρ H (Step.refl _ _) hs⟩
theorem mts_one {c : Expr} {t : TDen} (h : MT X c t) : MTs X [c] t := ⟨pts_one h.pt⟩
end
section
variable {X : Cx} {elt tg iter : Expr} {ifs : List Expr} {scope : Scope} {own : List (Str × Nat)} {pos : Pos} {it : IDen} {g : GDen} {t : TDen} {f : Den}
/-- the reading of a comprehension by the turns -/
theorem lc_imp {G : Gx} {gg : TG} {vs : List Nat} (hg : GC G gg g vs) {σ : L2.St} {H : Hp} {Q : VK} (h : tU G (uLc it g t f vs) σ H Q) : tLc (tI G it) gg (tT G t) (tE G f) vs σ H Q := by
  obtain ⟨ρ, env, S, ds, S', he, hs, hf, q⟩ := h
  obtain ⟨p, S1, h1, hf⟩ := bind2 hf
  refine ⟨ρ, env, S, p, S1, he, hs, h1, fun ρ1 H1 J st1 sr1 ir D hD => ?_⟩
  have he1 := (he.step st1).wiped vs
  have hD0 : H D = none := st1.free sr1 hD
  refine ⟨fun i m H2 => m = p.ds.length - i ∧ i ≤ p.ds.length ∧ ∃ ρ2 S2 acc vs', Step ρ1 H1 ρ2 H2 ∧ (D, true) ∉ ρ2 ∧ SR G ρ2 H2 S2 ∧ H2 D = some (.lst vs') ∧ RpL G ρ2 H2 acc vs' ∧ lcRun p.src g t f (wipeE env vs) (p.ds.drop i) acc S2 = some (ds, S'),
    ⟨p.ds.length, by simp, Nat.zero_le _, ρ1, S1, [], [], Step.untracked hD, sr1.fresh hD, sr1.untracked hD, upd_same, RpL.nil, hf⟩, ?_⟩
  rintro i m H2 ⟨rfl, hi, ρ2, S2, acc, vs', st12, nD2, sr2, hD2, ra, hr⟩
  by_cases hlt : i < p.ds.length
  · rw [List.drop_eq_getElem_cons hlt] at hr
    unfold lcRun at hr
    split at hr
    · rename_i so
      obtain ⟨env3, S3, h3, hr⟩ := bind2 hr
      obtain ⟨b, S4, h4, hr⟩ := bind2 hr
      refine .inr ⟨ir.goes i ρ2 H2 S2 hlt st12 sr2 so, fun H2 => i + 1 ≤ p.ds.length ∧ ∃ ρ2 S2 acc vs', Step ρ1 H1 ρ2 H2 ∧ (D, true) ∉ ρ2 ∧ SR G ρ2 H2 S2 ∧ H2 D = some (.lst vs') ∧ RpL G ρ2 H2 acc vs' ∧ lcRun p.src g t f (wipeE env vs) (p.ds.drop (i + 1)) acc S2 = some (ds, S'),
        fun H' w => ⟨p.ds.length - (i + 1), by omega, rfl, w.1, w.2⟩, fun x H3 y => ?_⟩
      obtain ⟨st3, sr3, d, hd, rd⟩ := ir.yields i ρ2 H2 S2 x H3 hlt st12 sr2 so y
      have ed : p.ds[i] = d := Option.some.inj ((List.getElem?_eq_getElem hlt).symm.trans hd)
      rw [ed] at h3
      refine hg.imp' ⟨ρ2, wipeE env vs, S2, d, env3, S3, he1.step (st12.trans st3), sr3, rd, h3, fun ρ4 σ4 H4 st4 he4 sr4 => ?_⟩
      refine tT.bind he4 sr4 h4 fun ρ5 H5 st5 he5 sr5 => ?_
      have st25 : Step ρ2 H2 ρ5 H5 := (st3.trans st4).trans st5
      obtain ⟨hD5, nD5⟩ := st25.keepU hD2 nD2
      cases b with
      | true =>
        simp only [if_true] at hr ⊢
        obtain ⟨r, S6, h6, hr⟩ := bind2 hr
        refine tE.bind he5 sr5 h6 fun ρ6 v6 H6 st6 he6 sr6 r6 => ?_
        simp only at hr
        split at hr
        · rename_i hz
          obtain ⟨hD6, nD6⟩ := st6.keepU hD5 nD5
          have ra6 := ra.step (st25.trans st6)
          refine ⟨vs', hD6, by rw [ra6.length]; exact hz, by omega, ρ6, S6, acc ++ [r], vs' ++ [v6], ?_, nD6, ?_, upd_same, ?_, hr⟩
          all_goals (have stw : Mon ρ6 H6 ρ6 (upd H6 D (.lst (vs' ++ [v6]))) := ⟨List.prefix_refl _, fun b xs e => by
              have : b ≠ D := by rintro rfl; rw [hD6] at e; cases e
              rw [upd_ne this]; exact e, fun b x y e => by
              have : b ≠ D := by rintro rfl; rw [hD6] at e; cases e
              rw [upd_ne this]; exact e⟩)
          · have sa := st12.trans (st25.trans st6)
            refine ⟨⟨sa.pre, fun b xs e => stw.tup _ _ (sa.tup _ _ e), fun b x y e => stw.frz _ _ _ (sa.frz _ _ _ e)⟩, sa.new, fun b o e hb => ?_⟩
            have hbD : b ≠ D := by rintro rfl; rw [hD] at e; cases e
            rw [upd_ne hbD]; exact sa.oth b o e hb
          · exact ⟨sr6.len, fun l o a e1 e2 => ObR.over stw (fun hm x hx => by
              have : a.1 ≠ D := by
                rintro rfl
                have := sr6.mu l o a e1 e2
                rw [hm] at this
                exact nD6 (List.mem_of_getElem? (by rw [e2]; exact congrArg some (Prod.ext rfl this.symm)))
              rw [upd_ne this]; exact hx) (sr6.obj l o a e1 e2), sr6.mu, sr6.inj⟩
          · exact RpL.mon stw (ra6.append (RpL.one r6))
        · cases hr
      | false =>
        simp only [Bool.false_eq_true, if_false] at hr ⊢
        exact ⟨by omega, ρ5, S4, acc, vs', st12.trans st25, nD5, sr5, hD5, ra.step st25, hr⟩
    · cases hr
  · have e : i = p.ds.length := by omega
    subst e
    rw [List.drop_eq_nil_of_le (Nat.le_refl _)] at hr
    unfold lcRun at hr
    split at hr
    · rename_i so
      cases hr
      exact .inl ⟨ir.stops ρ2 H2 S' st12 sr2 so, q ρ2 D vs' H2 (st1.trans st12) sr2 ra hD2 hD0 nD2⟩
    · cases hr
end
end ML
namespace ML
open PySem PySem.Spec PyProof.Rows L2
section
variable {X : Cx} {elt tg iter : Expr} {ifs : List Expr} {scope : Scope} {pos : Pos} {it : IDen} {g : GDen} {t : TDen} {f : Den}
theorem mu_lc (own : List (Str × Nat)) {gg : TG} (hc : X.calm = true) (hN : X.N.Nodup) (hi : MI X tg iter it) (ok : BlkOk X.N X.env.scope scope own)
    (hg : ∀ (s : Shared) (H : Hp) (C : Addr) (cl : List (Str × Addr)) (fp : List Addr), PG (X.blk s H scope (compEnvC scope cl C X.env) fp) tg gg) (hgc : GC (gx X) gg g (own.map (·.2)))
    (ht : ∀ (s : Shared) (H : Hp) (C : Addr) (cl : List (Str × Addr)) (fp : List Addr), MTs (X.blk s H scope (compEnvC scope cl C X.env) fp) ifs t)
    (he : ∀ (s : Shared) (H : Hp) (C : Addr) (cl : List (Str × Addr)) (fp : List Addr), ME (X.blk s H scope (compEnvC scope cl C X.env) fp) elt f) (hs : ∀ x, foldedSetIterable iter X.env x = pure x := by intro _; rfl) :
    MU X (.ListComp elt [⟨tg, iter, ifs, 0⟩] scope pos) (uLc it g t f (own.map (·.2))) :=
  ⟨PE.weak (pe_lc hc hN hi.pi ok hg (fun s H C cl fp => (ht s H C cl fp).pts) (fun s H C cl fp => (he s H C cl fp).pe) hs) fun _ _ _ h => lc_imp hgc h⟩
end
end ML

namespace ML
open PySem PySem.Spec PyProof.Rows L2

/-! ### statements -/
inductive Fl where
  | nx | rt (d : D) | bk | ct
abbrev SDen := En → Sto → Option (Fl × En × Sto)
/-- what is wanted behind a flow -/
def Wnt (G : Gx) (De : Ends) (ρ : List Lo) (S' : Sto) (env' : En) (fl : Fl) (σ' : L2.St) (H' : Hp) : Prop := match fl with
  | .nx => De.nx σ' H'
  | .bk => De.bk σ' H'
  | .ct => De.ct σ' H'
  | .rt d => ∀ v, Rp G ρ H' d v → De.rt v H'
def tS (G : Gx) (f : SDen) : TS := fun De σ H => ∃ ρ env S fl env' S', EnR G ρ H env σ ∧ SR G ρ H S ∧ f env S = some (fl, env', S') ∧ ∀ ρ' σ' H', Step ρ H ρ' H' → EnR G ρ' H' env' σ' → SR G ρ' H' S' → Wnt G De ρ' S' env' fl σ' H'
structure MS (X : Cx) (st : Stmt) (f : SDen) : Prop where
  ps : PS X st (tS (gx X) f)
structure MSs (X : Cx) (st : List Stmt) (f : SDen) : Prop where
  pss : PSs X st (tS (gx X) f)
theorem PS.weak {X : Cx} {e : Stmt} {t t' : TS} (h : PS X e t) (hw : ∀ D σ H, t' D σ H → t D σ H) : PS X e t' := ⟨fun pins s σ H Q I q => h.run pins s σ H Q I (hw Q σ H q)⟩
theorem PSs.weak {X : Cx} {e : List Stmt} {t t' : TS} (h : PSs X e t) (hw : ∀ D σ H, t' D σ H → t D σ H) : PSs X e t' := ⟨fun pins s σ H Q I q => h.run pins s σ H Q I (hw Q σ H q)⟩
theorem tS.bind {G : Gx} {f : SDen} {De : Ends} {σ : L2.St} {H : Hp} {ρ : List Lo} {env env' : En} {S S1 : Sto} {fl : Fl} (he : EnR G ρ H env σ) (hs : SR G ρ H S) (h : f env S = some (fl, env', S1))
    (k : ∀ ρ' σ' H', Step ρ H ρ' H' → EnR G ρ' H' env' σ' → SR G ρ' H' S1 → Wnt G De ρ' S1 env' fl σ' H') : tS G f De σ H := ⟨ρ, env, S, fl, env', S1, he, hs, h, k⟩
theorem bind3 {α β δ γ : Type} {o : Option (α × β × δ)} {k : α × β × δ → Option γ} {r : γ} (h : o.bind k = some r) : ∃ x y z, o = some (x, y, z) ∧ k (x, y, z) = some r := by
  obtain ⟨⟨x, y, z⟩, a, b⟩ := Option.bind_eq_some_iff.mp h
  exact ⟨x, y, z, a, b⟩
def sNil : SDen := fun env S => some (.nx, env, S)
def sCons (f g : SDen) : SDen := fun env S => (f env S).bind fun p => match p.1 with
  | .nx => g p.2.1 p.2.2
  | _ => some p
def sAsg (f : Den) (g : GDen) : SDen := fun env S => (f env S).bind fun p => (g p.1 env p.2).bind fun q => some (.nx, q.1, q.2)
def sAsgU (f : ADen) (i : Nat) : SDen := fun env S => (f env S).bind fun p => some (.nx, env.set i (some (.loc p.2.length)), p.2 ++ [.lst p.1])
def sPar (i j : Nat) (f : ADen) : SDen := fun env S => (f env S).bind fun p => match p.1 with
  | [a, b] => some (.nx, (env.set i (some a)).set j (some b), p.2)
  | _ => none
def sPar3 (i j l : Nat) (f : ADen) : SDen := fun env S => (f env S).bind fun p => match p.1 with
  | [a, b, c] => some (.nx, ((env.set i (some a)).set j (some b)).set l (some c), p.2)
  | _ => none
def sRet (f : Den) : SDen := fun env S => (f env S).bind fun p => some (.rt p.1, env, p.2)
def sRetN : SDen := fun env S => some (.rt .non, env, S)
def sExpr (f : Den) : SDen := fun env S => (f env S).bind fun p => some (.nx, env, p.2)
def sIf (t : TDen) (f g : SDen) : SDen := fun env S => (t env S).bind fun p => if p.1 = true then f env p.2 else g env p.2
def sBk : SDen := fun env S => some (.bk, env, S)
def sCt : SDen := fun env S => some (.ct, env, S)
def sAug (i : Nat) (g : Op2) (f : Den) : SDen := fun env S => match env[i]? with
  | some (some x) => (f env S).bind fun p => (g x p.1 p.2).bind fun q => some (.nx, env.set i (some q.1), q.2)
  | _ => none
/-- while, at most n tests -/
def wRun (t : TDen) (b : SDen) : Nat → En → Sto → Option (Fl × En × Sto)
  | 0, _, _ => none
  | n + 1, env, S => (t env S).bind fun p => if p.1 = true then (b env p.2).bind fun q => match q.1 with
      | .nx => wRun t b n q.2.1 q.2.2
      | .ct => wRun t b n q.2.1 q.2.2
      | .bk => some (.nx, q.2.1, q.2.2)
      | .rt d => some (.rt d, q.2.1, q.2.2)
    else some (.nx, env, p.2)
noncomputable section
open Classical
def sWhile (t : TDen) (b : SDen) : SDen := fun env S => if h : ∃ n, (wRun t b n env S).isSome = true then wRun t b (Classical.choose h) env S else none
def fRun (src : List (Nat × Ob)) (g : GDen) (b : SDen) : List D → En → Sto → Option (Fl × En × Sto)
  | [], env, S => if srcOk src S then some (.nx, env, S) else none
  | d :: ds, env, S => if srcOk src S then (g d env S).bind fun p => (b p.1 p.2).bind fun q => match q.1 with
      | .nx => fRun src g b ds q.2.1 q.2.2
      | .ct => fRun src g b ds q.2.1 q.2.2
      | .bk => some (.nx, q.2.1, q.2.2)
      | .rt d => some (.rt d, q.2.1, q.2.2)
    else none
def sFor (it : IDen) (g : GDen) (b : SDen) : SDen := fun env S => (it env S).bind fun p => fRun p.1.src g b p.1.ds env p.2
end
theorem wRun_mono {t : TDen} {b : SDen} : ∀ {n : Nat} {env : En} {S : Sto} {r : Fl × En × Sto}, wRun t b n env S = some r → wRun t b (n + 1) env S = some r
  | 0, _, _, _, h => by cases h
  | n + 1, env, S, r, h => by
    rw [wRun] at h ⊢
    obtain ⟨x, S1, h1, h2⟩ := bind2 h
    rw [h1]
    simp only [Option.bind_some]
    cases x with
    | true =>
      simp only [if_true] at h2 ⊢
      obtain ⟨fl, e, S2, h3, h4⟩ := bind3 h2
      rw [h3]
      simp only [Option.bind_some]
      cases fl with
      | nx => exact wRun_mono h4
      | ct => exact wRun_mono h4
      | bk => exact h4
      | rt d => exact h4
    | false => simpa using h2
theorem wRun_le {t : TDen} {b : SDen} {n m : Nat} (hl : n ≤ m) {env : En} {S : Sto} {r : Fl × En × Sto} (h : wRun t b n env S = some r) : wRun t b m env S = some r := by
  induction hl with
  | refl => exact h
  | step _ ih => exact wRun_mono ih
theorem sWhile_of {t : TDen} {b : SDen} {n : Nat} {env : En} {S : Sto} {r : Fl × En × Sto} (h : wRun t b n env S = some r) : sWhile t b env S = some r := by
  unfold sWhile
  have hx : ∃ n, (wRun t b n env S).isSome = true := ⟨n, by rw [h]; rfl⟩
  rw [dif_pos hx]
  obtain ⟨r', e⟩ := Option.isSome_iff_exists.mp (Classical.choose_spec hx)
  rw [e]
  have a := wRun_le (Nat.le_max_left (Classical.choose hx) n) e
  have c := wRun_le (Nat.le_max_right (Classical.choose hx) n) h
  rw [a] at c
  exact c
theorem sWhile_some {t : TDen} {b : SDen} {env : En} {S : Sto} {r : Fl × En × Sto} (h : sWhile t b env S = some r) : ∃ n, wRun t b n env S = some r := by
  unfold sWhile at h
  split at h
  · exact ⟨_, h⟩
  · cases h
/-- one turn of a while -/
theorem sWhile_eq (t : TDen) (b : SDen) (env : En) (S : Sto) : sWhile t b env S = (t env S).bind fun p => if p.1 = true then (b env p.2).bind fun q => match q.1 with
      | .nx => sWhile t b q.2.1 q.2.2
      | .ct => sWhile t b q.2.1 q.2.2
      | .bk => some (.nx, q.2.1, q.2.2)
      | .rt d => some (.rt d, q.2.1, q.2.2)
    else some (.nx, env, p.2) := by
  apply Option.ext
  intro r
  constructor
  · intro h
    obtain ⟨n, h⟩ := sWhile_some h
    cases n with
    | zero => cases h
    | succ n =>
      rw [wRun] at h
      obtain ⟨x, S1, h1, h2⟩ := bind2 h
      rw [h1]
      simp only [Option.bind_some]
      cases x with
      | true =>
        simp only [if_true] at h2 ⊢
        obtain ⟨fl, e, S2, h3, h4⟩ := bind3 h2
        rw [h3]
        simp only [Option.bind_some]
        cases fl with
        | nx => exact sWhile_of h4
        | ct => exact sWhile_of h4
        | bk => exact h4
        | rt d => exact h4
      | false => simpa using h2
  · intro h
    obtain ⟨x, S1, h1, h2⟩ := bind2 h
    cases x with
    | true =>
      simp only [if_true] at h2
      obtain ⟨fl, e, S2, h3, h4⟩ := bind3 h2
      have fin : ∀ {n}, (match fl with
        | .nx => wRun t b n e S2
        | .ct => wRun t b n e S2
        | .bk => some (.nx, e, S2)
        | .rt d => some (.rt d, e, S2)) = some r → sWhile t b env S = some r := by
        intro n hn
        refine sWhile_of (n := n + 1) ?_
        rw [wRun, h1]
        simp only [Option.bind_some, if_true]
        rw [h3]
        simp only [Option.bind_some]
        exact hn
      cases fl with
      | nx => obtain ⟨n, h5⟩ := sWhile_some h4; exact fin (n := n) h5
      | ct => obtain ⟨n, h5⟩ := sWhile_some h4; exact fin (n := n) h5
      | bk => exact fin (n := 0) h4
      | rt d => exact fin (n := 0) h4
    | false =>
      refine sWhile_of (n := 1) ?_
      rw [wRun, h1]
      simpa using h2

section
variable {X : Cx} {pos : Pos} {st : Stmt} {rest : List Stmt} {f g b : SDen} {e c : Expr} {fe : Den} {fu : ADen}
theorem mss_nil : MSs X [] sNil := ⟨PSs.weak pss_nil fun De σ H h => by
  obtain ⟨ρ, env, S, fl, env', S', he, hs, hf, q⟩ := h
  cases hf
  exact q ρ σ H (Step.refl _ _) he hs⟩
theorem mss_cons (h1 : MS X st f) (h2 : MSs X rest g) : MSs X (st :: rest) (sCons f g) := by
  refine ⟨PSs.weak (pss_cons h1.ps h2.pss) fun De σ H h => ?_⟩
  obtain ⟨ρ, env, S, fl, env', S', he, hs, hf, q⟩ := h
  obtain ⟨x, e1, S1, h1, h2⟩ := bind3 hf
  refine tS.bind he hs h1 fun ρ1 σ1 H1 st1 he1 sr1 => ?_
  cases x with
  | nx => exact tS.bind he1 sr1 h2 fun ρ2 σ2 H2 st2 he2 sr2 => q ρ2 σ2 H2 (st1.trans st2) he2 sr2
  | bk => cases h2; exact q ρ1 σ1 H1 st1 he1 sr1
  | ct => cases h2; exact q ρ1 σ1 H1 st1 he1 sr1
  | rt d => cases h2; exact q ρ1 σ1 H1 st1 he1 sr1
theorem ms_asg {tg : Expr} {g : GDen} (he : ME X e fe) (hg : MG X tg g) (hs : swapsWithSole [tg] e pos.line X.env = pure false := by rfl) (hw : swappedStores [tg] e X.env = pure none := by rfl)
    (h1 : (assignEach [tg] X.env).map (·.2) = [assign tg X.env] := by rfl) : MS X (.Assign [tg] e pos) (sAsg fe g) := by
  refine ⟨PS.weak (ps_asg he.pe hg.pg hs hw h1) fun De σ H h => ?_⟩
  obtain ⟨ρ, env, S, fl, env', S', he, hs, hf, q⟩ := h
  obtain ⟨x, S1, h1, h2⟩ := bind2 hf
  obtain ⟨env2, S2, h3, h4⟩ := bind2 h2
  cases h4
  exact tE.bind he hs h1 fun ρ1 v1 H1 st1 he1 sr1 r1 => tG.bind he1 sr1 r1 h3 fun ρ2 σ2 H2 st2 he2 sr2 => q ρ2 σ2 H2 (st1.trans st2) he2 sr2
theorem ms_set (i : Nat) {x : Str} {pos' : Pos} (hN : X.N.Nodup) (he : ME X e fe) (hi : X.N[i]? = some x := by rfl) (hx : Loc X.env.scope x := by first | exact Or.inl rfl | exact Or.inr rfl) (hs : swapsWith e (some (.Name x pos')) pos.line X.env = pure false := by rfl) (hf : X.fn x = true ∨ X.env.scope.names.lookup x = some .local := by first | exact .inl rfl | exact .inr rfl) :
    MS X (.Assign [.Name x pos'] e pos) (sAsg fe (gName i)) := by
  refine ⟨PS.weak (ps_set hN hi hx he.pe hs hf) fun De σ H h => ?_⟩
  obtain ⟨ρ, env, S, fl, env', S', he, hs, hf, q⟩ := h
  obtain ⟨y, S1, h1, h2⟩ := bind2 hf
  obtain ⟨env2, S2, h3, h4⟩ := bind2 h2
  cases h4
  cases h3
  exact tE.bind he hs h1 fun ρ1 v1 H1 st1 he1 sr1 r1 => q ρ1 _ H1 st1 (he1.set r1 i) sr1
/-- y = [..], stored within the comprehension -/
theorem ms_setLc (i : Nat) {y : Str} {py : Pos} {elt tg iter : Expr} {ifs : List Expr} {scope : Scope} {spos : Pos} {it : IDen} {g : GDen} {t : TDen} {f : Den} (own : List (Str × Nat)) {gg : TG} (hc : X.calm = true) (hN : X.N.Nodup)
    (hi : MI X tg iter it) (ok : BlkOk X.N X.env.scope scope own)
    (hg : ∀ (s : Shared) (H : Hp) (C : Addr) (cl : List (Str × Addr)) (fp : List Addr), PG (X.blk s H scope (compEnvC scope cl C X.env) fp) tg gg) (hgc : GC (gx X) gg g (own.map (·.2)))
    (ht : ∀ (s : Shared) (H : Hp) (C : Addr) (cl : List (Str × Addr)) (fp : List Addr), MTs (X.blk s H scope (compEnvC scope cl C X.env) fp) ifs t)
    (he : ∀ (s : Shared) (H : Hp) (C : Addr) (cl : List (Str × Addr)) (fp : List Addr), ME (X.blk s H scope (compEnvC scope cl C X.env) fp) elt f)
    (hy : X.N[i]? = some y := by rfl) (hyl : X.env.scope.names.lookup y = some .local := by rfl)
    (hsw : swapsWith (.ListComp elt [⟨tg, iter, ifs, 0⟩] scope pos) (some (.Name y py)) spos.line X.env = pure true := by exact sw_true rfl rfl rfl (by decide +kernel))
    (hs : ∀ x, foldedSetIterable iter X.env x = pure x := by intro _; rfl) :
    MS X (.Assign [.Name y py] (.ListComp elt [⟨tg, iter, ifs, 0⟩] scope pos) spos) (sAsgU (uLc it g t f (own.map (·.2))) i) := by
  refine ⟨PS.weak (ps_setLc (tt := tT (gx X) t) (te := tE (gx X) f) hc hN hy hyl hsw hi.pi ok hg (fun s H C cl fp => (ht s H C cl fp).pts) (fun s H C cl fp => (he s H C cl fp).pe) hs) fun De σ H h => ?_⟩
  obtain ⟨ρ, env, S, fl, env', S', he, hs, hf, q⟩ := h
  obtain ⟨ds, S1, h1, h2⟩ := bind2 hf
  cases h2
  refine lc_imp hgc (tU.bind he hs h1 fun ρ1 p vs H1 st1 he1 sr1 r1 e1 f1 n1 => ?_)
  refine q (ρ1 ++ [(p, true)]) _ H1 (st1.take f1) ?_ (sr1.ownL n1 e1 r1)
  have z : EnR (gx X) (ρ1 ++ [(p, true)]) H1 env σ := he.step (st1.take f1)
  exact z.set (rp_loc sr1) i
theorem ms_par (i j : Nat) {x y : Str} {a b : Expr} {px py pt : Pos} {kt k2 pt2} (hc : X.calm = true) (hN : X.N.Nodup) (ha : MA X [a, b] fu) (hi : X.N[i]? = some x := by rfl) (hj : X.N[j]? = some y := by rfl) (hij : i ≠ j := by decide)
    (hx : X.env.scope.names.lookup x = some .local := by rfl) (hy : X.env.scope.names.lookup y = some .local := by rfl)
    (hw : swappedStores [.Tuple [.Name x px, .Name y py] kt pt] (.Tuple [a, b] k2 pt2) X.env = pure (some [x, y]) := by rfl)
    (hs : swapsWithSole [.Tuple [.Name x px, .Name y py] kt pt] (.Tuple [a, b] k2 pt2) pos.line X.env = pure false := by rfl) :
    MS X (.Assign [.Tuple [.Name x px, .Name y py] kt pt] (.Tuple [a, b] k2 pt2) pos) (sPar i j fu) := by
  refine ⟨PS.weak (ps_par hc hN hi hj hij hx hy ha.pa hw hs) fun De σ H h => ?_⟩
  obtain ⟨ρ, env, S, fl, env', S', he, hs, hf, q⟩ := h
  obtain ⟨ds, S1, h1, h2⟩ := bind2 hf
  refine tA.bind he hs h1 fun ρ1 vs H1 st1 he1 sr1 r1 => ?_
  simp only at h2
  split at h2
  · rename_i d1 d2
    cases h2
    obtain ⟨v, u, rfl, rv, ru⟩ := two_of r1
    exact ⟨v, u, rfl, q ρ1 _ H1 st1 ((he1.set rv i).set ru j) sr1⟩
  · cases h2
theorem ms_ret (he : ME X e fe) : MS X (.Return (some e) pos) (sRet fe) := by
  refine ⟨PS.weak (ps_ret he.pe) fun De σ H h => ?_⟩
  obtain ⟨ρ, env, S, fl, env', S', he, hs, hf, q⟩ := h
  obtain ⟨y, S1, h1, h2⟩ := bind2 hf
  cases h2
  exact tE.bind he hs h1 fun ρ1 v1 H1 st1 he1 sr1 r1 => q ρ1 σ H1 st1 he1 sr1 v1 r1
theorem ms_expr (he : ME X e fe) (hs : swapsWith e none pos.line X.env = pure false := by rfl) : MS X (.Expr e pos) (sExpr fe) := by
  refine ⟨PS.weak (ps_expr he.pe hs) fun De σ H h => ?_⟩
  obtain ⟨ρ, env, S, fl, env', S', he, hs, hf, q⟩ := h
  obtain ⟨y, S1, h1, h2⟩ := bind2 hf
  cases h2
  exact tE.bind he hs h1 fun ρ1 v1 H1 st1 he1 sr1 r1 => q ρ1 σ H1 st1 he1 sr1
theorem ms_if {t : TDen} {a b : List Stmt} (hc : MT X c t) (ha : MSs X a f) (hb : MSs X b g) : MS X (.If c a b pos) (sIf t f g) := by
  refine ⟨PS.weak (ps_if hc.pt ha.pss hb.pss) fun De σ H h => ?_⟩
  obtain ⟨ρ, env, S, fl, env', S', he, hs, hf, q⟩ := h
  obtain ⟨x, S1, h1, h2⟩ := bind2 hf
  refine tT.bind he hs h1 fun ρ1 H1 st1 he1 sr1 => ?_
  cases x with
  | true => exact tS.bind he1 sr1 h2 fun ρ2 σ2 H2 st2 he2 sr2 => q ρ2 σ2 H2 (st1.trans st2) he2 sr2
  | false => exact tS.bind he1 sr1 h2 fun ρ2 σ2 H2 st2 he2 sr2 => q ρ2 σ2 H2 (st1.trans st2) he2 sr2
theorem ms_while {t : TDen} {body : List Stmt} (hp : PassesOwn (model X.prog X.w) X.A X.env X.xe) (hc : MT X c t) (hb : MSs X body b) : MS X (.While c body [] pos) (sWhile t b) := by
  refine ⟨PS.weak (ps_while hp hc.pt hb.pss) fun De σ H h => ?_⟩
  obtain ⟨ρ, env, S, fl, env', S', he, hs, hf, q⟩ := h
  obtain ⟨n, hn⟩ := sWhile_some hf
  refine ⟨fun m σ1 H1 => ∃ ρ1 env1 S1, Step ρ H ρ1 H1 ∧ EnR (gx X) ρ1 H1 env1 σ1 ∧ SR (gx X) ρ1 H1 S1 ∧ wRun t b m env1 S1 = some (fl, env', S'), ⟨n, ρ, env, S, Step.refl _ _, he, hs, hn⟩, ?_⟩
  rintro m σ1 H1 ⟨ρ1, env1, S1, st1, he1, sr1, hr⟩
  cases m with
  | zero => cases hr
  | succ m =>
    rw [wRun] at hr
    obtain ⟨x, S2, h1, h2⟩ := bind2 hr
    refine tT.bind he1 sr1 h1 fun ρ2 H2 st2 he2 sr2 => ?_
    cases x with
    | true =>
      simp only [if_true] at h2 ⊢
      obtain ⟨fl2, env2, S3, h3, h4⟩ := bind3 h2
      refine ⟨fun σ' H' => ∃ ρ1 env1 S1, Step ρ H ρ1 H' ∧ EnR (gx X) ρ1 H' env1 σ' ∧ SR (gx X) ρ1 H' S1 ∧ wRun t b m env1 S1 = some (fl, env', S'), fun σ' H' w => ⟨m, Nat.lt_succ_self _, w⟩, tS.bind he2 sr2 h3 fun ρ3 σ3 H3 st3 he3 sr3 => ?_⟩
      have st := (st1.trans st2).trans st3
      cases fl2 with
      | nx => exact ⟨ρ3, env2, S3, st, he3, sr3, h4⟩
      | ct => exact ⟨ρ3, env2, S3, st, he3, sr3, h4⟩
      | bk => cases h4; exact q ρ3 σ3 H3 st he3 sr3
      | rt d => cases h4; exact q ρ3 σ3 H3 st he3 sr3
    | false =>
      cases h2
      exact q ρ2 σ1 H2 (st1.trans st2) he2 sr2
theorem ms_for {iter tg : Expr} {body : List Stmt} {it : IDen} {g : GDen} (hp : PassesOwn (model X.prog X.w) X.A X.env X.xe) (hc : X.calm = true) (hi : MI X tg iter it) (hg : MG X tg g) (hb : MSs X body b)
    (hs : ∀ x, foldedSetIterable iter X.env x = pure x := by intro _; rfl) : MS X (.For tg iter body [] pos) (sFor it g b) := by
  refine ⟨PS.weak (ps_for hp hc hi.pi hg.pg hb.pss hs) fun De σ H h => ?_⟩
  obtain ⟨ρ, env, S, fl, env', S', he, hs, hf, q⟩ := h
  obtain ⟨p, S1, h1, hf⟩ := bind2 hf
  refine ⟨ρ, env, S, p, S1, he, hs, h1, fun ρ1 H1 J st1 sr1 ir => ?_⟩
  have he1 := he.step st1
  refine ⟨fun i m σ2 H2 => m = p.ds.length - i ∧ i ≤ p.ds.length ∧ ∃ ρ2 env2 S2, Step ρ1 H1 ρ2 H2 ∧ EnR (gx X) ρ2 H2 env2 σ2 ∧ SR (gx X) ρ2 H2 S2 ∧ fRun p.src g b (p.ds.drop i) env2 S2 = some (fl, env', S'),
    ⟨p.ds.length, by simp, Nat.zero_le _, ρ1, env, S1, Step.refl _ _, he1, sr1, hf⟩, ?_⟩
  rintro i m σ2 H2 ⟨rfl, hil, ρ2, env2, S2, st2, he2, sr2, hr⟩
  by_cases hlt : i < p.ds.length
  · rw [List.drop_eq_getElem_cons hlt] at hr
    unfold fRun at hr
    split at hr
    · rename_i so
      obtain ⟨env3, S3, h3, hr⟩ := bind2 hr
      obtain ⟨fl4, env4, S4, h4, hr⟩ := bind3 hr
      refine .inr ⟨ir.goes i ρ2 H2 S2 hlt st2 sr2 so, fun σ2 H2 => i + 1 ≤ p.ds.length ∧ ∃ ρ2 env2 S2, Step ρ1 H1 ρ2 H2 ∧ EnR (gx X) ρ2 H2 env2 σ2 ∧ SR (gx X) ρ2 H2 S2 ∧ fRun p.src g b (p.ds.drop (i + 1)) env2 S2 = some (fl, env', S'),
        fun σ' H' w => ⟨p.ds.length - (i + 1), by omega, rfl, w.1, w.2⟩, fun x H3 y => ?_⟩
      obtain ⟨st3, sr3, d, hd, rd⟩ := ir.yields i ρ2 H2 S2 x H3 hlt st2 sr2 so y
      have ed : p.ds[i] = d := Option.some.inj ((List.getElem?_eq_getElem hlt).symm.trans hd)
      rw [ed] at h3
      refine tG.bind (he2.step st3) sr3 rd h3 fun ρ4 σ4 H4 st4 he4 sr4 => ?_
      refine tS.bind he4 sr4 h4 fun ρ5 σ5 H5 st5 he5 sr5 => ?_
      have st25 := (st3.trans st4).trans st5
      cases fl4 with
      | nx => exact ⟨by omega, ρ5, env4, S4, st2.trans st25, he5, sr5, hr⟩
      | ct => exact ⟨by omega, ρ5, env4, S4, st2.trans st25, he5, sr5, hr⟩
      | bk => cases hr; exact q ρ5 σ5 H5 (st1.trans (st2.trans st25)) he5 sr5
      | rt d => cases hr; exact q ρ5 σ5 H5 (st1.trans (st2.trans st25)) he5 sr5
    · cases hr
  · have e : i = p.ds.length := by omega
    subst e
    rw [List.drop_eq_nil_of_le (Nat.le_refl _)] at hr
    unfold fRun at hr
    split at hr
    · rename_i so
      cases hr
      exact .inl ⟨ir.stops ρ2 H2 S' st2 sr2 so, q ρ2 σ2 H2 (st1.trans st2) he2 sr2⟩
    · cases hr
end
end ML

namespace ML
open PySem PySem.Spec PyProof.Rows L2

/-! ### what a call leaves -/
mutual
def D.bel (n : Nat) : D → Bool
  | .loc l => decide (l < n)
  | .tup ds => D.belL n ds
  | _ => true
def D.belL (n : Nat) : List D → Bool
  | [] => true
  | d :: ds => D.bel n d && D.belL n ds
end
def Ob.bel (n : Nat) : Ob → Bool
  | .lst xs => D.belL n xs
  | .rol xs => D.belL n xs
  | .dk kvs => kvs.all fun p => p.2.bel n
/-- what the call made and nobody reaches is forgotten -/
def gc (n : Nat) (d : D) (S : Sto) : D × Sto := if (d.bel n && (S.take n).all fun o => o.bel n) = true then (d, S.take n) else (d, S)
def mkFn (np ns : Nat) (body : SDen) : Fn := fun ds S => if ds.length = np then (body (ds.map some ++ List.replicate (ns - np) none) S).bind fun p => match p.1 with
  | .rt d => some (gc S.length d p.2.2)
  | .nx => some (gc S.length .non p.2.2)
  | _ => none
  else none
section
variable {G : Gx} {ρ ρ' : List Lo} {H H' : Hp}
theorem take_get {α : Type} {l : List α} {n i : Nat} (h : i < n) : (l.take n)[i]? = l[i]? := by
  rw [List.getElem?_take, if_pos h]
mutual
theorem Rp.cut {n : Nat} : ∀ {d : D} {v : V}, d.bel n = true → Rp G ρ H d v → Rp G (ρ.take n) H d v
  | .non, _, _, h => by simpa [Rp] using h
  | .bl _, _, _, h => by simpa [Rp] using h
  | .int _, _, _, h => by simpa [Rp] using h
  | .str _, _, _, h => by simpa [Rp] using h
  | .ty _, _, _, h => by simpa [Rp] using h
  | .fn _, _, _, h => by simpa [Rp] using h
  | .loc l, _, b, h => by
    simp only [Rp] at h ⊢
    obtain ⟨a, e, r⟩ := h
    exact ⟨a, by rw [take_get (by simpa [D.bel] using b)]; exact e, r⟩
  | .tup ds, _, b, h => by
    simp only [Rp] at h ⊢
    obtain ⟨a, vs, e, q, r⟩ := h
    exact ⟨a, vs, e, q, RpL.cut (by simpa [D.bel] using b) r⟩
theorem RpL.cut {n : Nat} : ∀ {ds : List D} {vs : List V}, D.belL n ds = true → RpL G ρ H ds vs → RpL G (ρ.take n) H ds vs
  | [], _, _, h => by simpa [RpL] using h
  | d :: ds, _, b, h => by
    simp only [D.belL, Bool.and_eq_true] at b
    simp only [RpL] at h ⊢
    obtain ⟨v, r, e, q, t⟩ := h
    exact ⟨v, r, e, Rp.cut b.1 q, RpL.cut b.2 t⟩
end
theorem RpK.cut {n : Nat} : ∀ {ds : List (Key × D)} {vs : List (Key × V)}, (ds.all fun p => p.2.bel n) = true → RpK G ρ H ds vs → RpK G (ρ.take n) H ds vs
  | [], _, _, h => by simpa [RpK] using h
  | d :: ds, _, b, h => by
    simp only [List.all_cons, Bool.and_eq_true] at b
    simp only [RpK] at h ⊢
    obtain ⟨v, r, e, q, t⟩ := h
    exact ⟨v, r, e, Rp.cut b.1 q, RpK.cut b.2 t⟩
theorem ObR.cut {n : Nat} {a : Addr} : ∀ {o : Ob}, o.bel n = true → ObR G ρ H a o → ObR G (ρ.take n) H a o
  | .lst ds, b, ⟨vs, e, r⟩ => ⟨vs, e, RpL.cut b r⟩
  | .rol ds, b, ⟨vs, e, r⟩ => ⟨vs, e, RpL.cut b r⟩
  | .dk kvs, b, ⟨vs, e, r⟩ => ⟨vs, e, RpK.cut b r⟩
theorem SR.cut {S : Sto} {n : Nat} (h : SR G ρ H S) (b : ((S.take n).all fun o => o.bel n) = true) : SR G (ρ.take n) H (S.take n) := by
  have hb := List.all_eq_true.mp b
  have lt : ∀ {l : Nat} {α : Type} {xs : List α} {x : α}, (xs.take n)[l]? = some x → l < n := fun {l α xs x} e => by
    have := (List.getElem?_eq_some_iff.mp e).1
    rw [List.length_take] at this
    omega
  refine ⟨by rw [List.length_take, List.length_take, h.len], fun l o a e e' => ?_, fun l o a e e' => ?_, fun l l' a e e' => ?_⟩
  · have hl := lt e
    have := hb o (List.mem_of_getElem? e)
    rw [take_get hl] at e e'
    exact ObR.cut this (h.obj l o a e e')
  · have hl := lt e
    rw [take_get hl] at e e'
    exact h.mu l o a e e'
  · rw [take_get (lt e)] at e
    rw [take_get (lt e')] at e'
    exact h.inj l l' a e e'
theorem Step.cut (s : Step ρ H ρ' H') : Step ρ H ρ H' := ⟨⟨List.prefix_refl _, s.tup, s.frz⟩, fun _ h => .inl h, s.oth⟩
theorem pre_take {α : Type} {l l' : List α} (h : l <+: l') : l'.take l.length = l := by
  obtain ⟨r, rfl⟩ := h
  simp
end
theorem rep_get {α : Type} {n i : Nat} {x y : α} (h : (List.replicate n x)[i]? = some y) : y = x := by
  have := List.mem_of_getElem? h
  exact (List.mem_replicate.mp this).2
theorem enr_start {G : Gx} {ρ : List Lo} {H : Hp} {ds : List D} {vs : List V} {N : List Str} (r : RpL G ρ H ds vs) : EnR G ρ H (ds.map some ++ List.replicate (N.length - ds.length) none) (L2.start N vs) := by
  have hl := r.length
  unfold L2.start
  refine ⟨by simp [hl], fun i d e => ?_⟩
  by_cases hi : i < ds.length
  · rw [List.getElem?_append_left (by simpa using hi), List.getElem?_map] at e
    have e1 : ds[i]? = some d := by
      cases q : ds[i]? with
      | none => rw [q] at e; cases e
      | some x => rw [q] at e; simpa using e
    obtain ⟨v, h1, h2⟩ := r.get e1
    refine ⟨v, ?_, h2⟩
    rw [List.getElem?_append_left (by simp [hl]; exact hi), List.getElem?_map, h1]
    rfl
  · rw [List.getElem?_append_right (by simpa using hi)] at e
    have := rep_get e
    cases this
section
variable {P : Program} {w : World} {K : PySem.W.Frag} {mg : Str → Option Value} {base : Heap} {x qual : Str} {params : Arguments} {body : List Stmt} {scope : Scope} {f : Addr} {fd : FuncData} {N ps : List Str} {k : Nat} {b : SDen}
/-- a def keeps what its body's function tells -/
theorem fn_ok (F : FunD K x qual params body scope [] [] f fd) (Sc : FnScope N ps scope)
    (h : ∀ (cdv : Value) (A : Around) (outer : List Env) (s : Shared) (H : Hp) (E : XK), Room k (A.deeper (envOfC qual scope s.heap.objs.size f cdv)) → MSs (cxOf CX0 P w K mg base N qual scope f cdv A outer s H E).nox body b) :
    FnOk P w K mg base CX0 (k + 1) f fd ps (spD ⟨K, mg⟩ (mkFn ps.length N.length b)) := by
  refine F.ok Sc (fun vs H Q E hs => ?_) (fun cdv A outer s H vs Q E hr hs => ?_)
  · obtain ⟨ρ, S, ds, d, S', hs, r, hf, q⟩ := hs
    unfold mkFn at hf
    split at hf
    · rename_i hl
      rw [r.length, hl]
    · cases hf
  · refine ⟨_, ((h cdv A outer s H E hr).pss).nox, ?_⟩
    obtain ⟨ρ, S, ds, d, S', hs, r, hf, q⟩ := hs
    unfold mkFn at hf
    split at hf
    · rename_i hl
      obtain ⟨fl, env', S1, h1, h2⟩ := bind3 hf
      have he := enr_start (N := N) r
      rw [hl] at he
      refine tS.bind he hs h1 fun ρ' σ' H' st he' sr => ?_
      have fin : ∀ {d0 : D} {v : V}, Rp ⟨K, mg⟩ ρ' H' d0 v → gc S.length d0 S1 = (d, S') → Q v H' := by
        intro d0 v rv hg
        unfold gc at hg
        split at hg
        · rename_i hb
          rw [Bool.and_eq_true] at hb
          cases hg
          have e : ρ'.take S.length = ρ := by rw [← hs.len]; exact pre_take st.pre
          have a1 := rv.cut hb.1
          have a2 := sr.cut hb.2
          rw [e] at a1 a2
          exact q ρ v H' st.cut a2 a1
        · cases hg
          exact q ρ' v H' st sr rv
      cases fl with
      | nx => exact fin (d0 := .non) rp_of_non (Option.some.inj h2)
      | rt d0 => exact fun v rv => fin rv (Option.some.inj h2)
      | bk => cases h2
      | ct => cases h2
    · cases hf
end
/-! ### isinstance -/
def tyN (S : Sto) : D → Option String
  | .non => some "NoneType"
  | .bl _ => some "bool"
  | .int _ => some "int"
  | .str _ => some "str"
  | .tup _ => some "tuple"
  | .loc l => match S[l]? with
    | some (.lst _) => some "list"
    | some (.rol _) => some "list"
    | some (.dk _) => some "dict"
    | none => none
  | _ => none
/-- of one class, or of one of several -/
def kitAll (t : String) : List D → Option Bool
  | [] => some false
  | .ty c :: r => (kitB t c).bind fun b => (kitAll t r).map fun b' => b || b'
  | _ => none
def bIsi : Fn
  | [d, .ty c], S => (tyN S d).bind fun t => (kitB t c).map fun b => (.bl b, S)
  | [d, .tup cs], S => (tyN S d).bind fun t => (kitAll t cs).map fun b => (.bl b, S)
  | _, _ => none
/-! ### in -/
/-! ### == of new lists -/
/-- [..] == [..], a list that nobody else holds on either side -/
def eEqU (neg : Bool) (f g : ADen) : Den := fun env S => (f env S).bind fun p => (g env p.2).bind fun q => (toPL p.1).bind fun x => (toPL q.1).bind fun y =>
  if SeqAt.shaped (.list x) && SeqAt.shaped (.list y) then some (.bl (if neg = true then !PyData.eqv (.list x) (.list y) else PyData.eqv (.list x) (.list y)), q.2) else none
section
variable {X : Cx} {a b : Expr} {fa fb : ADen} {fd : Den} {pos : Pos}
end

/-! ### the law -/
theorem law_sp {G : Gx} {g : Fn} {ns : List Int} {H : Hp} {a : Addr} (hO : Only H) (hS : SqL G.K H a (ns.map V.int)) (h : ∃ S', g [.loc 0] [.rol (ns.map D.int)] = some (.bl true, S')) :
    spD G g [.ref a] H (fun v _ => v = .bl true) fun _ _ _ => False := by
  obtain ⟨S', e⟩ := h
  have rl : ∀ ns : List Int, RpL G [(a, false)] H (ns.map D.int) (ns.map V.int) := by
    intro ns
    induction ns with
    | nil => exact RpL.nil
    | cons n ns ih => exact RpL.cons (rp_of_int n) ih
  refine ⟨[(a, false)], [.rol (ns.map D.int)], [.loc 0], .bl true, S', ⟨rfl, fun l o b e1 e2 => ?_, fun l o b e1 e2 => ?_, fun l l' b e1 e2 => ?_⟩, ?_, e, fun ρ' v H' _ _ r => rp_bl r⟩
  · cases l with
    | zero => cases e1; cases e2; exact ⟨_, SqR.of hO hS, rl ns⟩
    | succ l => simp at e1
  · cases l with
    | zero => cases e1; cases e2; rfl
    | succ l => simp at e1
  · cases l with
    | zero => cases e1
    | succ l => simp at e1
  · refine RpL.one ?_
    simp only [Rp]
    exact ⟨(a, false), rfl, rfl⟩
end ML

namespace ML
open PySem PySem.Spec PyProof.Rows L2

/-- a def of the module, by its name -/
structure HasFn (P : Program) (w : World) (K : PySem.W.Frag) (mg : Str → Option Value) (base : Heap) (x : Str) (k : Nat) (g : Fn) : Prop where
  ex : ∃ (f : Addr) (fd : FuncData) (ps : List Str), mg x = some (.ref f) ∧ PySem.W.keepIn K (.ref f) = true ∧ Binds K fd ps [] ∧ FnOk P w K mg base CX0 k f fd ps (spD ⟨K, mg⟩ g)
def gAddI : Op2
  | .int i, .int j, S => some (.int (i + j), S)
  | _, _, _ => none
section
variable {X : Cx} {e a b c : Expr} {es : List Expr} {fe fa fb fc fo : Den} {fs fu : ADen} {x : Str} {p pos apos : Pos} {k k' i j l : Nat} {g : Fn}
theorem me_callF (F : HasFn X.prog X.w X.K X.mg X.base x k g) (hr : Room k' X.A) (ha : MA X (e :: es) fs) (hk : k ≤ k' := by decide) (hg : Gl X x := by rfl)
    (hdb : (x == ("__debug__" : Str)) = false := by decide) (he : starEach (e :: es) X.env = (false, eval e X.env) :: starEach es X.env := by rfl) (hpl : (backTo pos (starEach es X.env)).any (·.1) = false := by rfl) :
    ME X (.Call (.Name x p) (e :: es) [] pos) (eCall g fs) := by
  obtain ⟨f, fd, ps, h1, h2, h3, h4⟩ := F.ex
  exact me_call h4 hr hk hg h1 h2 h3 ha hdb he hpl
/-- a slice of a tuple, a list -/
def eSl (f : Den) (l h : ODen) : Den := fun env S => (f env S).bind fun p => (l env p.2).bind fun q => (h env q.2).bind fun r => match p.1 with
  | .tup xs => some (.tup (cutD xs q.1 r.1), r.2)
  | .loc m => (lsAt r.2 m).map fun xs => (.loc r.2.length, r.2 ++ [.lst (cutD xs q.1 r.1)])
  | _ => none
theorem me_sl {lo hi : Option Expr} {fl fh : ODen} {p2 : Pos} (ha : ME X a fa) (hl : MO X lo fl) (hh : MO X hi fh) : ME X (.Subscript a (.Slice lo hi none p2) pos) (eSl fa fl fh) := by
  refine ⟨PE.weak (pe_slice (SlR.or sl_tupA sl_list) ha.pe hl.po hh.po) fun σ H Q h => ?_⟩
  obtain ⟨ρ, env, S, d, S', he, hs, hf, q⟩ := h
  obtain ⟨x, S1, h1, hf⟩ := bind2 hf
  obtain ⟨y, S2, h2, hf⟩ := bind2 hf
  obtain ⟨z, S3, h3, hf⟩ := bind2 hf
  refine tE.bind he hs h1 fun ρ1 v1 H1 st1 he1 sr1 r1 => tO.bind he1 sr1 h2 fun ρ2 H2 st2 he2 sr2 => tO.bind he2 sr2 h3 fun ρ3 H3 st3 he3 sr3 => ?_
  have r3 := (r1.step st2).step st3
  have st := (st1.trans st2).trans st3
  cases x with
  | tup xs =>
    cases hf
    obtain ⟨p, vs, rfl, q1, l1⟩ := rp_vs r3
    refine .inl ⟨p, vs, rfl, q1, fun hw => ?_, fun hw p' hp => ?_⟩
    · have : cutD xs y z = xs := by
        unfold cutD
        rw [l1.length] at hw
        rw [hw.1, hw.2]; simp
      rw [this] at q
      exact q ρ3 _ H3 st sr3 r3
    · exact q ρ3 _ _ (st.trans (Step.untracked hp)) (sr3.untracked hp) (rp_tup hp (cut_L l1))
  | loc m =>
    obtain ⟨xs, h4, h5⟩ := Option.map_eq_some_iff.mp hf
    cases h5
    obtain ⟨p, hr, rfl⟩ := rp_lc r3
    obtain ⟨p', vs, hr', q1, l1⟩ := lsAt_of sr3 h4
    rw [hr] at hr'; cases hr'
    exact .inr ⟨p.1, vs, rfl, q1, fun t ht => q _ _ _ (st.trans (Step.newloc ht)) (sr3.newL ht (cut_L l1)) (rp_loc sr3)⟩
  | _ => cases hf
theorem mb_len (hm : X.mg "len" = none) (ha : MA X (e :: es) fs) (hg : Gl X "len" := by rfl) (he : starEach (e :: es) X.env = (false, eval e X.env) :: starEach es X.env := by rfl) (hpl : (backTo pos (starEach es X.env)).any (·.1) = false := by rfl) : ME X (.Call (.Name "len" p) (e :: es) [] pos) (eCall bLen fs) :=
  me_callB (call_len) imp_len hg hm (by decide +kernel) ha (by decide) (by decide) he hpl
theorem mb_abs (hm : X.mg "abs" = none) (ha : MA X (e :: es) fs) (hg : Gl X "abs" := by rfl) (he : starEach (e :: es) X.env = (false, eval e X.env) :: starEach es X.env := by rfl) (hpl : (backTo pos (starEach es X.env)).any (·.1) = false := by rfl) : ME X (.Call (.Name "abs" p) (e :: es) [] pos) (eCall bAbs fs) :=
  me_callB (call_abs) imp_abs hg hm (by decide +kernel) ha (by decide) (by decide) he hpl
theorem mb_int (hm : X.mg "int" = none) (ha : MA X (e :: es) fs) (hg : Gl X "int" := by rfl) (he : starEach (e :: es) X.env = (false, eval e X.env) :: starEach es X.env := by rfl) (hpl : (backTo pos (starEach es X.env)).any (·.1) = false := by rfl) : ME X (.Call (.Name "int" p) (e :: es) [] pos) (eCall bInt fs) :=
  me_callTy (call_int1) imp_int hg hm (by decide +kernel) ha (by decide) (by decide) he hpl
theorem mb_tuple (hm : X.mg "tuple" = none) (ha : MA X (e :: es) fs) (hg : Gl X "tuple" := by rfl) (he : starEach (e :: es) X.env = (false, eval e X.env) :: starEach es X.env := by rfl) (hpl : (backTo pos (starEach es X.env)).any (·.1) = false := by rfl) : ME X (.Call (.Name "tuple" p) (e :: es) [] pos) (eCall bTuple fs) :=
  me_callTy (call_tuple_of) imp_tuple hg hm (by decide +kernel) ha (by decide) (by decide) he hpl
theorem mbu_tuple (hm : X.mg "tuple" = none) (ha : MU X e fu) (hg : Gl X "tuple" := by rfl) (hs : starEach [e] X.env = (false, eval e X.env) :: starEach [] X.env := by rfl) (hpl : (backTo pos (starEach [] X.env)).any (·.1) = false := by rfl) : ME X (.Call (.Name "tuple" p) [e] [] pos) (eU gTupU fu) :=
  me_callTyU (call_tuple_of) impU_tup hg hm (by decide +kernel) ha (by decide) (by decide) hs hpl
theorem mm_append (ho : ME X c fo) (ha : MA X (e :: es) fs)
    (hbase : attributeBase c "append" X.env (eval c X.env) = eval c X.env := by rfl)
    (hfew : ((backTo pos (starEach (e :: es) X.env)).all (fun x => !x.1) && (backToKw pos (keywordEach [] X.env)).all (fun x => x.1.isSome)
      && decide ((e :: es).length + ([] : List Keyword).length + (if ([] : List Keyword).isEmpty then 0 else 1) < 30)) = true := by rfl)
    (hline : (apos.endLine == pos.line) = true := by rfl) (hs : starEach (e :: es) X.env = (false, eval e X.env) :: starEach es X.env := by rfl) (hplain : (backTo pos (starEach es X.env)).any (·.1) = false := by rfl) : ME X (.Call (.Attribute c "append" apos) (e :: es) [] pos) (eMt mAppend fo fs) :=
  me_bm PySem.F.slot_list_append PySem.F.type_list_append mt_append imp_append ho ha hbase hfew hline hs hplain
theorem me_lt (ha : ME X a fa) (hb : ME X b fb) : ME X (.Compare a [.Lt] [b] pos) (eOp cLt fa fb) := me_cmp (op_lt) imp_cmp ha hb (nomark _)
theorem mt_lt (ha : ME X a fa) (hb : ME X b fb) : MT X (.Compare a [.Lt] [b] pos) (asB (eOp cLt fa fb)) := mt_cmp (op_lt) imp_cmp ha hb (nomark _)
theorem me_gt (ha : ME X a fa) (hb : ME X b fb) : ME X (.Compare a [.Gt] [b] pos) (eOp cGt fa fb) := me_cmp (op_gt) imp_cmp ha hb (nomark _)
theorem mt_gt (ha : ME X a fa) (hb : ME X b fb) : MT X (.Compare a [.Gt] [b] pos) (asB (eOp cGt fa fb)) := mt_cmp (op_gt) imp_cmp ha hb (nomark _)
theorem mt_ge (ha : ME X a fa) (hb : ME X b fb) : MT X (.Compare a [.GtE] [b] pos) (asB (eOp cGe fa fb)) := mt_cmp (op_ge) imp_cmp ha hb (nomark _)
theorem me_eq (hu : X.A.units + 64 < cLine) (ha : ME X a fa) (hb : ME X b fb) : ME X (.Compare a [.Eq] [b] pos) (eOp cEq fa fb) := me_cmp (op_eqD hu) imp_eq ha hb (nomark _)
theorem mt_eq (hu : X.A.units + 64 < cLine) (ha : ME X a fa) (hb : ME X b fb) : MT X (.Compare a [.Eq] [b] pos) (asB (eOp cEq fa fb)) := mt_cmp (op_eqD hu) imp_eq ha hb (nomark _)
theorem mt_ne (hu : X.A.units + 64 < cLine) (ha : ME X a fa) (hb : ME X b fb) : MT X (.Compare a [.NotEq] [b] pos) (asB (eOp cNe fa fb)) := mt_cmp (op_neD hu) imp_ne ha hb (nomark _)
theorem me_is (ha : ME X a fa) (hb : ME X b fb) : ME X (.Compare a [.Is] [b] pos) (eOp cIs fa fb) := me_cmp (op_isA) imp_is ha hb (nomark _)
theorem mt_is (ha : ME X a fa) (hb : ME X b fb) : MT X (.Compare a [.Is] [b] pos) (asB (eOp cIs fa fb)) := mt_cmp (op_isA) imp_is ha hb (nomark _)
theorem mt_isNot (ha : ME X a fa) (hb : ME X b fb) : MT X (.Compare a [.IsNot] [b] pos) (asB (eOp cIsNot fa fb)) := mt_cmp (op_isNotA) imp_isNot ha hb (nomark _)
end
end ML

namespace ML
open PySem PySem.Spec PyProof.Rows L2
/-! ### constants of the module -/
mutual
def ckV (K : PySem.W.Frag) : D → Value → Bool
  | .non, .none => true
  | .bl b, .bool c => b == c
  | .int i, .int j _ => decide (i = j)
  | .str x, .str y _ => decide (x = y)
  | .tup ds, .ref a => match K.lookup a with
    | some ⟨.type c, _, .seq its _, _⟩ => decide (c = "tuple") && (decide (its.size ≤ sizeLine) && ckL K ds its.toList)
    | _ => false
  | _, _ => false
def ckL (K : PySem.W.Frag) : List D → List Value → Bool
  | [], [] => true
  | d :: ds, u :: us => ckV K d u && ckL K ds us
  | _, _ => false
end
mutual
theorem ckV_ok {K : PySem.W.Frag} : ∀ (d : D) (u : Value), ckV K d u = true → ∃ v, RelV v u ∧ ∀ mg ρ H, Rp ⟨K, mg⟩ ρ H d v
  | .non, .none, h => ⟨.non, rfl, fun _ _ _ => rp_of_non⟩
  | .bl b, .bool c, h => ⟨.bl b, by rw [beq_iff_eq.mp (show (b == c) = true from h)]; rfl, fun _ _ _ => rp_of_bl _⟩
  | .int i, .int j t, h => ⟨.int i, ⟨t, by rw [of_decide_eq_true (show decide (i = j) = true from h)]⟩, fun _ _ _ => rp_of_int _⟩
  | .str x, .str y t, h => ⟨.str x, ⟨t, by rw [of_decide_eq_true (show decide (x = y) = true from h)]⟩, fun _ _ _ => rp_of_str _⟩
  | .tup ds, .ref a, h => by
    rw [ckV] at h
    split at h
    · rename_i o c od its n sl q
      simp only [Bool.and_eq_true, decide_eq_true_eq] at h
      obtain ⟨rfl, h2, h3⟩ := h
      obtain ⟨vs, r, e⟩ := ckL_ok ds its.toList h3
      refine ⟨.ref a, rfl, fun mg ρ H => ?_⟩
      simp only [Rp]
      exact ⟨a, vs, rfl, .inr ⟨_, its, n, q, rfl, rfl, h2, r⟩, e mg ρ H⟩
    · cases h
theorem ckL_ok {K : PySem.W.Frag} : ∀ (ds : List D) (us : List Value), ckL K ds us = true → ∃ vs, Vals vs us ∧ ∀ mg ρ H, RpL ⟨K, mg⟩ ρ H ds vs
  | [], [], _ => ⟨[], .nil, fun _ _ _ => RpL.nil⟩
  | d :: ds, u :: us, h => by
    rw [ckL, Bool.and_eq_true] at h
    obtain ⟨v, r, e⟩ := ckV_ok d u h.1
    obtain ⟨vs, rs, es⟩ := ckL_ok ds us h.2
    exact ⟨v :: vs, .cons r rs, fun mg ρ H => RpL.cons (e mg ρ H) (es mg ρ H)⟩
  | [], _ :: _, h => by cases h
  | _ :: _, [], h => by cases h
end
def ckX (K : PySem.W.Frag) (p : Str × D) : Bool := match PySem.W.nsIn K mainGlobals p.1 with
  | some (some v) => ckV K p.2 v
  | _ => false
def obsX (fa : List He.Fa) (fn : List He.DefD) (cs : List (Str × D)) (K : PySem.W.Frag) : He.AlD := ((He.obsD fa fn K).1 && cs.all (ckX K), (He.obsD fa fn K).2)
def SaysX (fa : List He.Fa) (fn : List He.DefD) (cs : List (Str × D)) (K : PySem.W.Frag) : Prop := obsX fa fn cs K = He.valD fn
/-- the name x tells d -/
structure HasC (K : PySem.W.Frag) (mg : Str → Option Value) (x : Str) (d : D) : Prop where
  ex : ∃ u v, mg x = some u ∧ RelV v u ∧ ∀ ρ H, Rp ⟨K, mg⟩ ρ H d v
section
variable {fa : List He.Fa} {fn : List He.DefD} {cs : List (Str × D)} {K : PySem.W.Frag} {h : Heap} {mg : Str → Option Value}
theorem SaysX.d (c : SaysX fa fn cs K) : He.SaysD fa fn K := by
  have c1 : ((He.obsD fa fn K).1 && cs.all (ckX K)) = true := congrArg (fun z : He.AlD => z.1) c
  have c2 : (obsX fa fn cs K).2 = (He.valD fn).2 := by rw [show obsX fa fn cs K = He.valD fn from c]
  exact Prod.ext (Bool.and_eq_true_iff.mp c1).1 c2
theorem SaysX.cst (X : K.In h) (G : h.Ns mainGlobals mg) (c : SaysX fa fn cs K) (i : Nat) {x : Str} {d : D} (e : cs[i]? = some (x, d) := by rfl) : HasC K mg x d := by
  have c1 : ((He.obsD fa fn K).1 && cs.all (ckX K)) = true := congrArg (fun z : He.AlD => z.1) c
  have c2 := List.all_eq_true.mp (Bool.and_eq_true_iff.mp c1).2 _ (List.mem_of_getElem? e)
  unfold ckX at c2
  split at c2
  · rename_i v hv
    obtain ⟨u, r, z⟩ := ckV_ok d v c2
    exact ⟨v, u, PySem.W.mg_of X G hv, r, z mg⟩
  · cases c2
end
section
variable {X : Cx} {e a b : Expr} {es : List Expr} {fe fa fb : Den} {fs fu : ADen} {pos p : Pos}
theorem me_cst {x : Str} {d : D} (C : HasC X.K X.mg x d) (hg : Gl X x := by rfl) (hd : (x == ("__debug__" : Str)) = false := by decide) : ME X (.Name x pos) (eC d) := by
  obtain ⟨u, v, h1, h2, h3⟩ := C.ex
  exact me_glob hg h1 h2 h3 hd
/-- list(xs) -/
def uLi (f : Den) : ADen := fun env S => (f env S).bind fun p => match p.1 with
  | .tup xs => some (xs, p.2)
  | .loc m => (lsAt p.2 m).map fun xs => (xs, p.2)
  | _ => none
/-- str(i) -/
def bStr : Fn
  | [.int i], S => if i.natAbs.log2 < 1920 then some (.str (toString i), S) else none
  | [.str x], S => some (.str x, S)
  | _, _ => none
/-- {k: v} -/
def dKy : D → Option Key
  | .int i => some (.inl i)
  | .str x => some (.inr x)
  | _ => none
def eDk1 (f g : Den) : Den := fun env S => (f env S).bind fun p => (g env p.2).bind fun q => (dKy p.1).map fun k => (.loc q.2.length, q.2 ++ [.dk [(k, q.1)]])
end
end ML
namespace ML
open PySem PySem.Spec PyProof.Rows L2
end ML
namespace ML
open PySem PySem.Spec PyProof.Rows L2
/-! ### what is not reached: no answer, no promise -/
end ML

namespace ML
open PySem PySem.Spec PyProof.Rows L2
/-! ### tables of defs -/
/-- a told row of tables: the name, its keys with the defs' names -/
abbrev TabD : Type := Str × List (Str × Str)
abbrev AlY : Type := He.AlD × List (Option (List (Option (Str × Int))))
def ckT (K : PySem.W.Frag) (t : TabD) : Bool := He.eqO (PySem.W.nsIn K mainGlobals t.1) (some (some (.ref (He.ga K t.1)))) &&
  t.2.all fun q => He.eqO (PySem.W.nsIn K mainGlobals q.2) (some (some (.ref (He.ga K q.2)))) && He.eqO (PySem.W.nsIn K (He.ga K t.1) q.1) (some (some (.ref (He.ga K q.2))))
def obsY (fa : List He.Fa) (fn : List He.DefD) (cs : List (Str × D)) (ts : List TabD) (K : PySem.W.Frag) : AlY :=
  (((obsX fa fn cs K).1 && ts.all (ckT K), (obsX fa fn cs K).2), ts.map fun t => He.dicW K (He.ga K t.1))
def valY (fn : List He.DefD) (ts : List TabD) (w : World) : AlY := (He.valD fn, ts.map fun t => some (He.keysIn w.params (t.2.map (·.1))))
def SaysY (fa : List He.Fa) (fn : List He.DefD) (cs : List (Str × D)) (ts : List TabD) (w : World) (K : PySem.W.Frag) : Prop := obsY fa fn cs ts K = valY fn ts w
section
variable {fa : List He.Fa} {fn : List He.DefD} {cs : List (Str × D)} {ts : List TabD} {K : PySem.W.Frag} {h : Heap} {mg : Str → Option Value} {w : World}
theorem SaysY.x (c : SaysY fa fn cs ts w K) : SaysX fa fn cs K := by
  have c0 : obsY fa fn cs ts K = valY fn ts w := c
  have c1 : ((obsX fa fn cs K).1 && ts.all (ckT K)) = true := congrArg (fun z : AlY => z.1.1) c0
  have c2 : (obsX fa fn cs K).2 = (He.valD fn).2 := congrArg (fun z : AlY => z.1.2) c0
  exact Prod.ext (Bool.and_eq_true_iff.mp c1).1 c2
theorem SaysY.d (c : SaysY fa fn cs ts w K) : He.SaysD fa fn K := c.x.d
theorem SaysY.cst (X : K.In h) (G : h.Ns mainGlobals mg) (c : SaysY fa fn cs ts w K) (i : Nat) {x : Str} {d : D} (e : cs[i]? = some (x, d) := by rfl) : HasC K mg x d := c.x.cst X G i e
end
section
variable {X : Cx} {e a b c : Expr} {es : List Expr} {fe fa fb fc fo : Den} {fs fu : ADen} {x : Str} {p pos apos : Pos} {k k' i j l : Nat} {g : Fn}
/-- some defs -/
def HasFns (P : Program) (w : World) (K : PySem.W.Frag) (mg : Str → Option Value) (base : Heap) (k : Nat) : List (Str × Fn) → Prop
  | [] => True
  | p :: r => HasFn P w K mg base p.1 k p.2 ∧ HasFns P w K mg base k r
theorem HasFns.get {P : Program} {w : World} {K : PySem.W.Frag} {mg : Str → Option Value} {base : Heap} {k : Nat} : ∀ {l : List (Str × Fn)} {x : Str} {F : Fn}, HasFns P w K mg base k l → l.lookup x = some F → HasFn P w K mg base x k F
  | (y, G) :: r, x, F, h, e => by
    rw [List.lookup_cons] at e
    split at e
    · rename_i hb
      cases e
      rw [beq_iff_eq.mp hb]
      exact h.1
    · exact HasFns.get h.2 e
theorem HasFns.nil {P : Program} {w : World} {K : PySem.W.Frag} {mg : Str → Option Value} {base : Heap} {k : Nat} : HasFns P w K mg base k [] := True.intro
theorem HasFns.cons {P : Program} {w : World} {K : PySem.W.Frag} {mg : Str → Option Value} {base : Heap} {k : Nat} {x : Str} {F : Fn} {r : List (Str × Fn)} (h : HasFn P w K mg base x k F) (t : HasFns P w K mg base k r) : HasFns P w K mg base k ((x, F) :: r) := ⟨h, t⟩
theorem HasFn.mono {P : Program} {w : World} {K : PySem.W.Frag} {mg : Str → Option Value} {base : Heap} {k k' : Nat} {x : Str} {F : Fn} (h : HasFn P w K mg base x k F) (hk : k ≤ k' := by decide) : HasFn P w K mg base x k' F := by
  obtain ⟨f, fd, ps, h1, h2, h3, h4⟩ := h.ex
  exact ⟨f, fd, ps, h1, h2, h3, h4.mono hk⟩
/-! ### list.reverse -/
theorem RpL.reverse {G : Gx} {ρ : List Lo} {H : Hp} : ∀ {ds : List D} {vs : List V}, RpL G ρ H ds vs → RpL G ρ H ds.reverse vs.reverse
  | [], _, h => by simp only [RpL] at h; subst h; exact RpL.nil
  | d :: ds, _, h => by
    simp only [RpL] at h
    obtain ⟨v, r, rfl, q, t⟩ := h
    rw [List.reverse_cons, List.reverse_cons]
    exact (RpL.reverse t).append (RpL.one q)
/-! ### enumerate, reversed -/
/-! ### 1 << n, n.bit_length() -/
/-! ### unpacking a tuple or a list -/
def gTupL (n : Nat) (g : GsDen) : GDen
  | .tup ds, env, S => if ds.length = n then g ds env S else none
  | .loc l, env, S => match lsAt S l with
    | some ds => if ds.length = n then g ds env S else none
    | none => none
  | _, _, _ => none
end
end ML

namespace MZ
open PySem PySem.Spec PyProof.Rows L2 RZ
open PySem.Sem (wp)
/-- the turns through a list (false) or a tuple (true) -/
def KI (t : Bool) (h : Heap) (i l : Addr) (k : Nat) : Prop := match t with
  | true => h.IsTupleIter i l k
  | false => h.IsListIter i l k
def KS (t : Bool) (h : Heap) (l : Addr) (xs : Array Value) : Prop := match t with
  | true => h.IsTuple l xs
  | false => h.IsList l xs
def KC (t : Bool) : String := match t with
  | true => "tuple_iterator"
  | false => "list_iterator"
theorem KI.at {t : Bool} {h h' : Heap} {i l : Addr} {k : Nat} (x : KI t h i l k) (e : ∀ o, h.get? i = some o → h'.get? i = some o) : KI t h' i l k := by
  cases t
  · exact Heap.IsListIter.at x e
  · exact Heap.IsTupleIter.at x e
theorem KS.at {t : Bool} {h h' : Heap} {l : Addr} {xs : Array Value} (x : KS t h l xs) (e : ∀ o, h.get? l = some o → h'.get? l = some o) : KS t h' l xs := by
  cases t
  · exact Heap.IsList.at x e
  · exact Heap.IsTuple.at x e
theorem KI.ob {t : Bool} {h : Heap} {i l : Addr} {k : Nat} (x : KI t h i l k) : ∃ o, h.get? i = some o ∧ ∀ v, o.data ≠ .cell v := by
  cases t <;> exact (let ⟨o, e, _, d⟩ := x; ⟨o, e, fun v q => by rw [d] at q; cases q⟩)
theorem KI.lt {t : Bool} {h : Heap} {i l : Addr} {k : Nat} (x : KI t h i l k) : i < h.objs.size := by
  obtain ⟨o, e, _⟩ := x.ob
  exact Heap.lt_size e
theorem KS.lt {t : Bool} {h : Heap} {l : Addr} {xs : Array Value} (x : KS t h l xs) : l < h.objs.size := by
  cases t <;> exact (let ⟨_, e, _⟩ := x; Heap.lt_size e)
theorem KI.new {t : Bool} {h : Heap} {i l : Addr} (e : h.get? i = some { cls := .type (KC t), data := .fields #[.ref l, .int 0 0] }) : KI t h i l 0 := by
  cases t
  · exact ⟨_, e, rfl, rfl⟩
  · exact ⟨_, e, rfl, rfl⟩
abbrev IsArr (h : Heap) (T : Addr) (xs : Array Value) : Prop := h.get? T = some { cls := .type "tuple", data := .seq xs }
section
variable {prog : Program} {w : World} {A : Around} {E : Value → Shared → Prop} {s : Shared}
theorem k_item {t : Bool} {i l : Addr} {k : Nat} {xs : Array Value} {v : Value} {Q : Value → Shared → Prop} (hi : KI t s.heap i l k) (hl : KS t s.heap l xs) (hx : xs[k]? = some v)
    (q : ∀ h', KI t h' i l (k + 1) → Heap.SameBut i s.heap h' → Q v { s with heap := h' }) : wpAny (model prog w) A (Builtin.SmallTypes.nextOf (.ref i)) Q E s := by
  cases t
  · exact wpAny_nextOf_list_item hi hl hx q
  · exact nextOf_tuple_item hi hl hx q
theorem k_end {t : Bool} {i l : Addr} {k : Nat} {xs : Array Value} {Q : Value → Shared → Prop} (hh : A.handled = none) (hi : KI t s.heap i l k) (hl : KS t s.heap l xs) (hx : xs[k]? = none)
    (q : ∀ h' e, Heap.ExtBut i s.heap h' → (∃ o, h'.get? e = some o ∧ o.cls = .type "StopIteration") → E (.ref e) { s with heap := h' }) : wpAny (model prog w) A (Builtin.SmallTypes.nextOf (.ref i)) Q E s := by
  cases t
  · exact wpAny_nextOf_list_end hh hi hl hx q
  · exact nextOf_tuple_end hh hi hl hx q
theorem k_iter {t : Bool} {l : Addr} {xs : Array Value} {Q : Value → Shared → Prop} (hl : KS t s.heap l xs)
    (q : Q (.ref s.heap.objs.size) { s with heap := s.heap.push { cls := .type (KC t), data := .fields #[.ref l, .int 0 0] } }) : wpAny (model prog w) A (pyIter (.ref l)) Q E s := by
  cases t
  · exact wpAny_pyIter_list hl q
  · exact wpAny_pyIter_tuple hl q
theorem up_arr {T : Addr} {xs : Array Value} {x : Value} {k : Nat} {Q : Unit → Shared → Prop} (hT : IsArr s.heap T xs)
    (q : ∀ h', IsArr h' T (xs.setIfInBounds k x) → Heap.SameBut T s.heap h' → Q () { s with heap := h' }) (hx : xs.size ≤ 4 := by exact Nat.le_of_ble_eq_true rfl) : wpAny (model prog w) A (updateSeq T (·.setIfInBounds k x)) Q E s := by
  refine wpAny_updateSeq hT rfl (q _ ?_ (Heap.SameBut.update ..)) (hz := Nat.le_trans hx (by decide)) (_hz' := by rw [Array.size_setIfInBounds]; exact Nat.le_trans hx (by decide))
  unfold IsArr
  rw [Heap.get?_update_self _ hT rfl] <;> simp [Obj.mapSeq]
end
/-- a list or a tuple of values -/
def Sq (K : PySem.W.Frag) (t : Bool) (H : Hp) (a : Addr) (xs : List V) : Prop := match t with
  | true => SqT K H a xs
  | false => SqL K H a xs
theorem sq_in {X : Cx} {pins : List (Addr × Obj)} {σ : L2.St} {H : Hp} {s : Shared} {t : Bool} {a : Addr} {xs : List V} (I : Inv X pins σ H s) (q : Sq X.K t H a xs) : ∃ its : List Value, Vals xs its ∧ KS t s.heap a its.toArray := by
  cases t
  · obtain ⟨its, rv, p, _⟩ := I.list q
    exact ⟨its, rv, p.isList⟩
  · obtain ⟨its, rv, p, _⟩ := I.tuple q
    exact ⟨its, rv, p⟩
theorem sq_inj {X : Cx} {pins : List (Addr × Obj)} {σ : L2.St} {H : Hp} {s : Shared} {t : Bool} {a : Addr} {xs ys : List V} (I : Inv X pins σ H s) (p : Sq X.K t H a xs) (q : Sq X.K t H a ys) : xs = ys := by
  cases t
  · exact I.list_inj p q
  · exact I.tuple_inj p q

section
variable {prog : Program} {w : World} {A : Around} {E : Value → Shared → Prop} {s : Shared}
end
section
variable {prog : Program} {w : World} {A : Around} {E : Value → Shared → Prop} {s : Shared}
end
section
variable {prog : Program} {w : World} {A : Around} {E : Value → Shared → Prop} {s : Shared}
end
section
variable {prog : Program} {w : World} {A : Around} {E : Value → Shared → Prop} {s : Shared}
end
end MZ

namespace MZ
open PySem PySem.Spec PyProof.Rows L2 RZ
open PySem.Sem (wp)
end MZ

namespace ML
open PySem PySem.Spec PyProof.Rows L2
def sqD (S : Sto) : D → Option (List D × List (Nat × Ob))
  | .tup xs => some (xs, [])
  | .loc l => match S[l]? with
    | some (.lst xs) => some (xs, [(l, .lst xs)])
    | _ => none
  | _ => none
theorem sqD_src {S : Sto} {d : D} {s : List D × List (Nat × Ob)} (h : sqD S d = some s) : srcOk s.2 S := by
  cases d with
  | tup xs => cases h; exact fun _ h => nomatch h
  | loc l =>
    simp only [sqD] at h
    split at h
    · next xs e =>
      cases h
      intro p hp
      rw [List.mem_singleton] at hp
      subst hp
      exact e
    · cases h
  | _ => cases h
theorem sqD_ok {G : Gx} {ρ : List Lo} {H : Hp} {S : Sto} {d : D} {v : V} {s : List D × List (Nat × Ob)} (sr : SR G ρ H S) (r : Rp G ρ H d v) (h : sqD S d = some s) :
    ∃ (t : Bool) (a : Addr), v = .ref a ∧ ∀ ρ2 H2 S2, Step ρ H ρ2 H2 → SR G ρ2 H2 S2 → srcOk s.2 S2 → ∃ vs, MZ.Sq G.K t H2 a vs ∧ RpL G ρ2 H2 s.1 vs := by
  cases d with
  | tup xs =>
    cases h
    obtain ⟨a, vs, rfl, q, l⟩ := rp_vs r
    exact ⟨true, a, rfl, fun ρ2 H2 S2 st _ _ => ⟨vs, st.seqT q, l.step st⟩⟩
  | loc l =>
    simp only [sqD] at h
    split at h
    · next xs e =>
      cases h
      obtain ⟨a, ha, rfl⟩ := rp_lc r
      refine ⟨false, a.1, rfl, fun ρ2 H2 S2 st sr2 so => ?_⟩
      obtain ⟨_, vs, hv, l1⟩ := sr2.lst (so (l, .lst xs) (by simp)) (pre_get st.pre ha)
      exact ⟨vs, .inl (.inl hv), l1⟩
    · cases h
  | _ => cases h
end ML

namespace MZ
open PySem PySem.Spec PyProof.Rows L2 RZ
open PySem.Sem (wp)
section
variable {prog : Program} {w : World} {A : Around} {E : Value → Shared → Prop} {s : Shared}
end
/-- a zip on its way through a list's making -/
def ZS3 (t1 t2 t3 : Bool) (z TI TO i1 i2 i3 a1 a2 a3 : Addr) (k : Nat) (h : Heap) : Prop :=
  (IsZip h z TI TO .none ∨ ∃ W b oW, IsZipHeld h z TI TO W b ∧ h.get? W = some oW ∧ W ∉ [z, TI, TO, i1, i2, i3] ∧ oW.cls = .type "tuple") ∧ IsArr h TI #[.ref i1, .ref i2, .ref i3] ∧ (∃ u1 u2 u3, IsArr h TO #[u1, u2, u3]) ∧ KI t1 h i1 a1 k ∧ KI t2 h i2 a2 k ∧ KI t3 h i3 a3 k
section
variable {X : Cx} {pins : List (Addr × Obj)} {σ : L2.St} {H : Hp} {s : Shared} {B : Around} {E : Value → Shared → Prop} {z TI TO i1 i2 i3 a1 a2 a3 : Addr} {t1 t2 t3 : Bool} {xs1 xs2 xs3 : List V} {k : Nat}
end
section
variable {X : Cx} {pins : List (Addr × Obj)} {σ : L2.St} {z TI TO i1 i2 i3 a1 a2 a3 q : Addr} {t1 t2 t3 : Bool} {xs1 xs2 xs3 : List V}
theorem ZS3.keep {h h' : Heap} {k : Nat} {oq : Obj} (st : ZS3 t1 t2 t3 z TI TO i1 i2 i3 a1 a2 a3 k h) (hq : h.get? q = some oq) (cq : oq.cls = .type "list") (nq : q ∉ [z, TI, TO, i1, i2, i3]) (kp : ∀ c o, c ≠ q → h.get? c = some o → h'.get? c = some o) : ZS3 t1 t2 t3 z TI TO i1 i2 i3 a1 a2 a3 k h' := by
  obtain ⟨hz, hTI, ⟨w1, w2, w3, hTO⟩, hI1, hI2, hI3⟩ := st
  have ne : ∀ c, c ∈ [z, TI, TO, i1, i2, i3] → c ≠ q := fun c hc e => nq (by rw [← e]; exact hc)
  refine ⟨?_, kp _ _ (ne _ (by simp)) hTI, ⟨_, _, _, kp _ _ (ne _ (by simp)) hTO⟩, hI1.at fun o e => kp _ o (ne _ (by simp)) e, hI2.at fun o e => kp _ o (ne _ (by simp)) e, hI3.at fun o e => kp _ o (ne _ (by simp)) e⟩
  rcases hz with hz | ⟨W, b, oW, hz, hW, nW, cW⟩
  · exact .inl (kp _ _ (ne _ (by simp)) hz)
  · refine .inr ⟨W, b, oW, kp _ _ (ne _ (by simp)) hz, kp _ _ (fun e => ?_) hW, nW, cW⟩
    rw [e, hq] at hW; cases hW; rw [cq] at cW; exact absurd cW (by decide)
end
end MZ

namespace ML
open PySem PySem.Spec PyProof.Rows L2
end ML

namespace ML
open PySem PySem.Spec PyProof.Rows L2
noncomputable def p_common_part : Fn := mkFn 2 2 (sCons (sPar 0 1 (aCons (eCall bAbs (aCons (eVar 0) aNil)) (aCons (eCall bAbs (aCons (eVar 1) aNil)) aNil))) (sCons (sWhile (tTru (eVar 1)) (sCons (sPar 0 1 (aCons (eVar 1) (aCons (eOp gMod (eVar 0) (eVar 1)) aNil))) sNil)) (sCons (sRet (eVar 0)) sNil)))
noncomputable def p_frac : Fn := mkFn 2 3 (sCons (sAsg (eCall p_common_part (aCons (eVar 0) (aCons (eVar 1) aNil))) (ML.gName 2)) (sCons (sIf (asB (eOp cLt (eVar 1) (eC (.int 0)))) (sCons (sAsg (eUn gNeg (eVar 2)) (ML.gName 2)) sNil) sNil) (sCons (sRet (eTup (aCons (eOp gFdiv (eVar 0) (eVar 2)) (aCons (eOp gFdiv (eVar 1) (eVar 2)) aNil)))) sNil)))
noncomputable def p_plus : Fn := mkFn 2 2 (sCons (sRet (eCall p_frac (aCons (eOp gAdd (eOp gMul (eOp gIx (eVar 0) (eC (.int 0))) (eOp gIx (eVar 1) (eC (.int 1)))) (eOp gMul (eOp gIx (eVar 1) (eC (.int 0))) (eOp gIx (eVar 0) (eC (.int 1))))) (aCons (eOp gMul (eOp gIx (eVar 0) (eC (.int 1))) (eOp gIx (eVar 1) (eC (.int 1)))) aNil)))) sNil)
noncomputable def p_minus : Fn := mkFn 2 2 (sCons (sRet (eCall p_frac (aCons (eOp gSub (eOp gMul (eOp gIx (eVar 0) (eC (.int 0))) (eOp gIx (eVar 1) (eC (.int 1)))) (eOp gMul (eOp gIx (eVar 1) (eC (.int 0))) (eOp gIx (eVar 0) (eC (.int 1))))) (aCons (eOp gMul (eOp gIx (eVar 0) (eC (.int 1))) (eOp gIx (eVar 1) (eC (.int 1)))) aNil)))) sNil)
noncomputable def p_times : Fn := mkFn 2 2 (sCons (sRet (eCall p_frac (aCons (eOp gMul (eOp gIx (eVar 0) (eC (.int 0))) (eOp gIx (eVar 1) (eC (.int 0)))) (aCons (eOp gMul (eOp gIx (eVar 0) (eC (.int 1))) (eOp gIx (eVar 1) (eC (.int 1)))) aNil)))) sNil)
noncomputable def p_over : Fn := mkFn 2 2 (sCons (sRet (eCall p_frac (aCons (eOp gMul (eOp gIx (eVar 0) (eC (.int 0))) (eOp gIx (eVar 1) (eC (.int 1)))) (aCons (eOp gMul (eOp gIx (eVar 0) (eC (.int 1))) (eOp gIx (eVar 1) (eC (.int 0)))) aNil)))) sNil)
noncomputable def p_sign : Fn := mkFn 1 1 (sCons (sRet (eOp gSub (eCall bInt (aCons (eOp cGt (eOp gIx (eVar 0) (eC (.int 0))) (eC (.int 0))) aNil)) (eCall bInt (aCons (eOp cLt (eOp gIx (eVar 0) (eC (.int 0))) (eC (.int 0))) aNil)))) sNil)
noncomputable def p_dot : Fn := mkFn 2 8 (sCons (sAsg (eTup (aCons (eVar 0) (aCons (eVar 1) aNil))) (ML.gTup 2 (ML.gCons (ML.gTup 3 (ML.gCons (ML.gName 2) (ML.gCons (ML.gName 3) (ML.gCons (ML.gName 4) ML.gNil)))) (ML.gCons (ML.gTup 3 (ML.gCons (ML.gName 5) (ML.gCons (ML.gName 6) (ML.gCons (ML.gName 7) ML.gNil)))) ML.gNil)))) (sCons (sRet (eCall p_plus (aCons (eCall p_plus (aCons (eCall p_times (aCons (eVar 2) (aCons (eVar 5) aNil))) (aCons (eCall p_times (aCons (eVar 3) (aCons (eVar 6) aNil))) aNil))) (aCons (eCall p_times (aCons (eVar 4) (aCons (eVar 7) aNil))) aNil)))) sNil))
noncomputable def p_added : Fn := mkFn 2 4 (sCons (sRet (eU gTupU (uLc (iZip (aCons (eVar 0) (aCons (eVar 1) aNil))) (ML.gTup 2 (ML.gCons (ML.gName 2) (ML.gCons (ML.gName 3) ML.gNil))) ML.tYes (eCall p_plus (aCons (eVar 2) (aCons (eVar 3) aNil))) [2, 3]))) sNil)
noncomputable def p_turned : Fn := mkFn 2 3 (sCons (sRet (eU gTupU (uLc (iSeq (eVar 0)) (ML.gName 2) ML.tYes (eCall p_dot (aCons (eVar 2) (aCons (eVar 1) aNil))) [2]))) sNil)
noncomputable def p_is_less : Fn := mkFn 2 2 (sCons (sRet (eOp cLt (eCall p_sign (aCons (eCall p_minus (aCons (eVar 0) (aCons (eVar 1) aNil))) aNil)) (eC (.int 0)))) sNil)
end ML

/-! repr of nested data: a law that is called with nothing under way -/
namespace ML
open PySem PySem.Spec PyProof.Rows L2
/-! ### the law's call, with what stands around it known -/
section
variable {P : Program} {w : World} {K : PySem.W.Frag} {mg : Str → Option Value} {base : Heap} {x qual : Str} {params : Arguments} {body : List Stmt} {scope : Scope} {f a : Addr} {fd : FuncData} {N ps : List Str} {k : Nat} {b : SDen} {A : Around}
/-- what a def promises when it is called with A around it -/
def AtA (P : Program) (w : World) (K : PySem.W.Frag) (mg : Str → Option Value) (base : Heap) (A : Around) (f : Addr) (fd : FuncData) (ps : List Str) (sp : Sp) : Prop :=
  ∀ (outer : List Env) (s : Shared) (H : Hp) (args : Args) (us : List Value) (vs : List V) (Q : VK) (E : XK), Env0 P w K mg base A outer s H → BindsTo s fd args (ps.zip us) → Vals vs us → sp vs H Q E →
    codeAny (model P w) A (.call (.ref f) args) (CR CX0 outer P w H s Q E) s
/-- the data function's reading of a body -/
theorem body_reads {X : Cx} {vs : List V} {H : Hp} {Q : VK} {E : XK} (hK : X.K = K) (hm : X.mg = mg) (hN : X.N = N) (M : MSs X.nox body b) (hs : spD ⟨K, mg⟩ (mkFn ps.length N.length b) vs H Q E) : vs.length = ps.length ∧ ∃ t, PSs X body t ∧ t { nx := fun _ H' => Q .non H', rt := Q } (start N vs) H := by
  subst hK hm hN
  obtain ⟨ρ, S, ds, d, S', hs, r, hf, q⟩ := hs
  unfold mkFn at hf
  split at hf
  · rename_i hl
    refine ⟨by rw [r.length, hl], _, M.pss.nox, ?_⟩
    obtain ⟨fl, env', S1, h1, h2⟩ := bind3 hf
    have he := enr_start (N := X.N) r
    rw [hl] at he
    refine tS.bind he hs h1 fun ρ' σ' H' st he' sr => ?_
    have fin : ∀ {d0 : D} {v : V}, Rp ⟨X.K, X.mg⟩ ρ' H' d0 v → gc S.length d0 S1 = (d, S') → Q v H' := by
      intro d0 v rv hg
      unfold gc at hg
      split at hg
      · rename_i hb
        rw [Bool.and_eq_true] at hb
        cases hg
        have e : ρ'.take S.length = ρ := by rw [← hs.len]; exact pre_take st.pre
        have a1 := rv.cut hb.1
        have a2 := sr.cut hb.2
        rw [e] at a1 a2
        exact q ρ v H' st.cut a2 a1
      · cases hg
        exact q ρ' v H' st sr rv
    cases fl with
    | nx => exact fin (d0 := .non) rp_of_non (Option.some.inj h2)
    | rt d0 => exact fun v rv => fin rv (Option.some.inj h2)
    | bk => cases h2
    | ct => cases h2
  · cases hf
/-- such a def keeps what its body's function tells -/
theorem fn_at (F : FunD K x qual params body scope [] [] f fd) (Sc : FnScope N ps scope) (no : A.handled = none) (deep : A.depth < recursionLimit)
    (M : ∀ (cdv : Value) (outer : List Env) (s : Shared) (H : Hp) (E : XK), MSs (cxOf CX0 P w K mg base N qual scope f cdv A outer s H E).nox body b) : AtA P w K mg base A f fd ps (spD ⟨K, mg⟩ (mkFn ps.length N.length b)) := by
  intro outer s H args us vs Q E ent bnd rv want
  obtain ⟨oc, od, dV, kV, doc, pm, an, cdv, ct, osl, rfl, here, code, -⟩ := F.ex
  have old := fun b o (e : base.get? b = some o) => (ent.bs b o e).1
  have inK : K.In s.heap := ent.mod.kin.keeps old
  obtain ⟨len, t, runs, starts⟩ := body_reads rfl rfl rfl (M cdv outer s H E) want
  have local_ : ∀ z ∈ ps.zip us, scope.names.lookup z.1 = some .local ∨ scope.names.lookup z.1 = some .cell ∧ ((cellsFrom (s.heap.objs.size + 1) scope.names []).lookup z.1).isSome = true := by
    rintro ⟨n, u⟩ hz
    refine (Sc.par n (List.of_mem_zip hz).1).imp id fun c => ⟨c, ?_⟩
    exact PySem.W.cellsFrom_some _ _ _ (.inl c)
  apply codeAny_call_function deep (inK f _ here) rfl Sc.co Sc.gen rfl (PySem.W.codeRec_of inK code)
  apply bnd
  apply wpAny_newFunctionEnv_cells Sc.kind local_
  intro env same s1 entered
  cases same
  refine ⟨(ent.mod.nolimit.keeps old).keeps entered.toInCall.keep, codeAny_func ?_⟩
  have J := inv_start (CX := CX0) (E := E) Sc no ent len rv entered
  refine wpAny_mono (runs.run [] s1 (start N vs) H _ J starts) ?_ fun _ _ z => z
  intro fl s2 fin
  match fl, fin with
  | .ret u, ⟨v, σ2, H2, I2, ru, q⟩ => exact ⟨v, H2, I2.os, I2.bare, I2.base, I2.hok, ru, q⟩
  | .next, ⟨σ2, H2, I2, q⟩ => exact ⟨.non, H2, I2.os, I2.bare, I2.base, I2.hok, rfl, q⟩
  | .brk, ⟨_, _, _, q⟩ => exact q.elim
  | .cont, ⟨_, _, _, q⟩ => exact q.elim
end
section
variable {P : Program} {w : World} {K : PySem.W.Frag} {mg mb : Str → Option Value} {s : Shared} {a fa : Addr} {vs : List Value} {ns : List Int} {fd : FuncData} {x : Str} {sp : Sp}
/-- what is tracked at a law's entry: the script alone -/
theorem script_only (inK : K.In s.heap) (scr : s.heap.get? a = some { cls := .type "list", data := .seq vs.toArray }) (whole : IntsAre vs ns) (few : ns.length ≤ sizeLine) :
    ∃ H : Hp, Only H ∧ SqL K H a (ns.map V.int) ∧ HOk P w H s.heap ∧ ∀ b, H b ≠ none → b = a ∧ K.lookup a = none := by
  have vals := vals_ints whole
  have many : vs.length = ns.length := whole.length
  cases own : K.lookup a with
  | some o =>
    have same := inK a o own
    rw [scr] at same
    cases same
    refine ⟨fun _ => none, fun _ => Or.inl rfl, Or.inr ⟨_, vs.toArray, _, own, rfl, rfl, rfl, ?_, ?_⟩, ?_, fun b h => absurd rfl h⟩
    · rw [List.size_toArray, many]
      exact few
    · simpa using vals
    · intro b u h
      exact nomatch (h : (none : Option HO) = some u)
  | none =>
    refine ⟨fun b => if b = a then some (.frz { cls := .type "list", data := .seq vs.toArray } (.lst (ns.map V.int))) else none, fun b => ?_, Or.inl (Or.inr ⟨_, if_pos rfl⟩), fun b u h => ?_, fun b h => ?_⟩
    · by_cases at_ : b = a
      · exact Or.inr ⟨_, _, if_pos at_⟩
      · exact Or.inl (if_neg at_)
    · by_cases at_ : b = a
      · subst at_
        simp only [if_true] at h
        cases h
        refine ⟨scr, ?_, vs, _, vals, scr⟩
        rw [List.length_map]
        exact few
      · simp only [if_neg at_] at h
        cases h
    · by_cases at_ : b = a
      · exact ⟨at_, rfl⟩
      · exact absurd (if_neg at_) h
/-- a law's call: nothing is under way around it -/
theorem call_at (inK : K.In s.heap) (gl : s.heap.Ns mainGlobals mg) (bt : s.heap.Ns builtinsNs mb) (boot : ∀ z : Str, z ≠ "__name__" → mb z = bootBuiltins z) (lim : s.heap.NoLimit) (none_ : s.gens = #[])
    (scr : s.heap.get? a = some { cls := .type "list", data := .seq vs.toArray }) (whole : IntsAre vs ns) (few : ns.length ≤ sizeLine)
    (F : ∀ base : Heap, K.In base → base.Ns mainGlobals mg → AtA P w K mg base callerA fa fd [x] sp) (bnd : ∀ (s : Shared) (u : Value), BindsTo s fd ⟨[u], []⟩ [(x, u)])
    (good : ∀ H : Hp, Only H → SqL K H a (ns.map V.int) → sp [.ref a] H (fun v _ => v = .bl true) fun _ _ _ => False) :
    codeAny (model P w) callerA (.call (.ref fa) ⟨[.ref a], []⟩) (fun r s' => r = .ok (.ret (.bool true)) ∧ OldK s.heap s'.heap ∧ s'.os = s.os ∧ AllBare s'.gens) s := by
  obtain ⟨H, only, sq, ok, lone⟩ := script_only (P := P) (w := w) inK scr whole few
  have dicts : ∀ {b : Addr} {m : Str → Option Value}, s.heap.Ns b m → (hidT s.heap H).Ns b m := by
    rintro b m ⟨o, es, ep, here, data, rest⟩
    refine ⟨o, es, ep, hidT_get here ?_, data, rest⟩
    by_cases c : H b = none
    · exact c
    · obtain ⟨rfl, -⟩ := lone b c
      rw [scr] at here
      cases here
      exact nomatch (data : Data.seq vs.toArray _ = Data.dict es ep)
  have kept : K.In (hidT s.heap H) := fun b o e => by
    refine hidT_get (inK b o e) ?_
    by_cases c : H b = none
    · exact c
    · obtain ⟨rfl, out⟩ := lone b c
      rw [out] at e
      cases e
  have limit : (hidT s.heap H).NoLimit := by
    obtain ⟨mc, l1, l2⟩ := lim
    exact ⟨mc, dicts l1, l2⟩
  have ent : Env0 P w K mg (hidT s.heap H) callerA [] s H := {
    frames := rfl
    mod := ⟨kept, dicts gl, ⟨mb, dicts bt, boot⟩, limit⟩
    bs := fun b o e => of_hidT e
    bsz := by rw [hidT_size]; exact Nat.le_refl _
    funs := True.intro
    frf := fun b hb => nomatch hb
    hok := ok
    bare := .of_eq none_ }
  refine codeAny_mono (F _ kept (dicts gl) [] s H _ [.ref a] [.ref a] _ _ ent (bnd s (.ref a)) (.cons rfl .nil) (good H only sq)) ?_
  intro r s2 fin
  match r, fin with
  | .ok (.ret u), ⟨v, H2, os, bare, un, ok2, ru, q⟩ =>
    have q : v = .bl true := q
    subst q
    cases (ru : u = Value.bool true)
    refine ⟨rfl, OldK.of_keep ?_, os, bare⟩
    intro b o e
    rcases only b with c | ⟨ob, xs, c⟩
    · exact un.keep b o e c (fun z => nomatch z) (fun z => nomatch z)
    · have first := (ok b _ c).1
      have later := (ok2 b _ (un.frzs b ob _ c)).1
      rw [e] at first
      cases first
      exact later
end
/-- the end of a law whose call is known by what stands around it -/
theorem walk_at {l : PySem.W.OpenLaw} {n : Nat} {q : Program} {loose : List Str} {XP : (Str → Option Value) → Heap → Prop} {YP : World → Heap → Prop} {d : DefRec} {x : Str} (most : l.most = some n) (small : n ≤ sizeLine) (plain : d.params.defaults = [])
    (F : ∀ (w : World) (mg : Str → Option Value) (fa : Addr) (h : Heap), YP w h → h.Ns mainGlobals mg → mg d.name = some (.ref fa) → ∃ (K : PySem.W.Frag) (fd : FuncData) (sp : Sp), K.In h ∧ (∀ (s : Shared) (u : Value), BindsTo s fd ⟨[u], []⟩ [(x, u)])
      ∧ (∀ (H : Hp) (a : Addr) (ns : List Int), ns.length ≤ n → Only H → SqL K H a (ns.map V.int) → sp [.ref a] H (fun v _ => v = .bl true) fun _ _ _ => False) ∧ ∀ base : Heap, K.In base → base.Ns mainGlobals mg → AtA l.prog w K mg base callerA fa fd [x] sp) :
    PySem.W.WalkO q loose XP YP l.row.toRowW d [] (fun f vs => PySem.call f vs) := by
  apply Att.attach_call most plain
  intro w s₀ s₁ mg mb fa o pm cd doc a vs ns G Y _ _ _ named list whole few gens
  obtain ⟨K, fd, sp, inK, bnd, good, at_⟩ := F w mg fa _ Y G.T.g named
  exact call_at inK G.T.g G.T.b G.T.builtins G.T.nolimit gens list whole (Nat.le_trans few small) at_ bnd fun H o q => good H a ns few o q
/-! ### repr -/
theorem call_repr {X : Cx} (gd : X.A.guards = some []) (un : X.A.units + 64 < cLine) : CallR X (.builtin "repr") (fun xs H Q => ∃ (v : V) (d : PyData), xs = [v] ∧ (v = .non ∨ ∃ a, v = .ref a) ∧ Dp X.K H v d ∧ d.showable = true ∧ d.hasDict = false ∧ d.depth ≤ 60 ∧ d.shown.length ≤ sizeLine ∧ Q (.str d.shown) H) := by
  intro pins s σ H xs us Q I r h
  obtain ⟨v, d, rfl, form, deep, shows, flat, low, fits, q⟩ := h
  obtain ⟨u, rfl, ru⟩ : ∃ u, us = [u] ∧ RelV v u := by
    cases r with
    | cons r1 r2 =>
      cases r2
      exact ⟨_, rfl, r1⟩
  rcases form with rfl | ⟨a, rfl⟩
  · cases deep
    cases (ru : u = Value.none)
    exact PySem.P.repr_of_none ⟨.str _, H, I.tok _, ⟨s.toks, by simp only [PyData.shown]⟩, q⟩
  · obtain ⟨as, reads⟩ := Dp.reads I d _ _ deep ru
    cases (ru : u = Value.ref a)
    exact repr_of_reads' reads shows (PyData.noDict_hsm flat) gd (by omega) (fun _ _ e => e) (fun h' t tk kept => ⟨.str d.shown, H, I.kept kept, ⟨t, rfl⟩, q⟩) fits
def shows : D → Bool
  | .non => true
  | .tup _ => true
  | .loc _ => true
  | _ => false
def bRepr : Fn
  | [d], S => (toPS S d).bind fun p => if shows d = true ∧ p.showable = true ∧ p.hasDict = false ∧ p.depth ≤ 60 ∧ p.shown.length ≤ sizeLine then some (.str p.shown, S) else none
  | _, _ => none
theorem imp_repr {G : Gx} : ImpC G bRepr (fun xs H Q => ∃ (v : V) (d : PyData), xs = [v] ∧ (v = .non ∨ ∃ a, v = .ref a) ∧ Dp G.K H v d ∧ d.showable = true ∧ d.hasDict = false ∧ d.depth ≤ 60 ∧ d.shown.length ≤ sizeLine ∧ Q (.str d.shown) H) := by
  rintro xs H Q ⟨ρ, S, ds, d, S', hs, r, h, q⟩
  match ds, r, h with
  | [], r, h => exact nomatch h
  | _ :: _ :: _, r, h => exact nomatch h
  | [d0], r, h =>
    obtain ⟨p, e, h⟩ := Option.bind_eq_some_iff.mp (show (toPS S d0).bind _ = some (d, S') from h)
    split at h
    · rename_i hz
      cases h
      obtain ⟨v, rfl, rv⟩ := one_of r
      refine ⟨v, p, rfl, ?_, toPS_ok hs e rv, hz.2.1, hz.2.2.1, hz.2.2.2.1, hz.2.2.2.2, q ρ _ H (Step.refl _ _) hs (rp_of_str _)⟩
      have sh := hz.1
      cases d0 with
      | non => exact .inl (by simpa [Rp] using rv)
      | tup ds =>
        simp only [Rp] at rv
        obtain ⟨a, vs, e, -⟩ := rv
        exact .inr ⟨a, e⟩
      | loc l =>
        simp only [Rp] at rv
        obtain ⟨a, -, e⟩ := rv
        exact .inr ⟨_, e⟩
      | _ => exact nomatch sh
    · cases h
section
variable {X : Cx} {e : Expr} {es : List Expr} {fs : ADen} {p pos : Pos}
theorem mb_repr (gd : X.A.guards = some []) (un : X.A.units + 64 < cLine) (hm : X.mg "repr" = none) (ha : MA X (e :: es) fs) (hg : Gl X "repr" := by rfl) (he : starEach (e :: es) X.env = (false, eval e X.env) :: starEach es X.env := by rfl) (hpl : (backTo pos (starEach es X.env)).any (·.1) = false := by rfl) : ME X (.Call (.Name "repr" p) (e :: es) [] pos) (eCall bRepr fs) :=
  me_callB (call_repr gd un) imp_repr hg hm (by decide +kernel) ha (by decide) (by decide) he hpl
end
end ML

namespace MZ
open PySem PySem.Spec PyProof.Rows L2 RZ
open PySem.Sem (wp)
structure ZA4 (z TI TO i1 i2 i3 i4 l1 l2 l3 l4 : Nat) : Prop where
  TIz : TI ≠ z
  TOz : TO ≠ z
  TITO : TI ≠ TO
  i1z : i1 ≠ z
  TIi1 : TI ≠ i1
  TOi1 : TO ≠ i1
  l1z : l1 ≠ z
  l1TO : l1 ≠ TO
  l1i1 : l1 ≠ i1
  i12 : i1 ≠ i2
  l1i2 : l1 ≠ i2
  i13 : i1 ≠ i3
  l1i3 : l1 ≠ i3
  i14 : i1 ≠ i4
  l1i4 : l1 ≠ i4
  i2z : i2 ≠ z
  TIi2 : TI ≠ i2
  TOi2 : TO ≠ i2
  l2z : l2 ≠ z
  l2TO : l2 ≠ TO
  l2i1 : l2 ≠ i1
  l2i2 : l2 ≠ i2
  i23 : i2 ≠ i3
  l2i3 : l2 ≠ i3
  i24 : i2 ≠ i4
  l2i4 : l2 ≠ i4
  i3z : i3 ≠ z
  TIi3 : TI ≠ i3
  TOi3 : TO ≠ i3
  l3z : l3 ≠ z
  l3TO : l3 ≠ TO
  l3i1 : l3 ≠ i1
  l3i2 : l3 ≠ i2
  l3i3 : l3 ≠ i3
  i34 : i3 ≠ i4
  l3i4 : l3 ≠ i4
  i4z : i4 ≠ z
  TIi4 : TI ≠ i4
  TOi4 : TO ≠ i4
  l4z : l4 ≠ z
  l4TO : l4 ≠ TO
  l4i1 : l4 ≠ i1
  l4i2 : l4 ≠ i2
  l4i3 : l4 ≠ i3
  l4i4 : l4 ≠ i4
section
variable {prog : Program} {w : World} {A : Around} {E : Value → Shared → Prop} {s : Shared}
theorem zn4_item {z TI TO i1 i2 i3 i4 l1 l2 l3 l4 : Addr} {t1 t2 t3 t4 : Bool} {k1 k2 k3 k4 : Nat} {xs1 xs2 xs3 xs4 : Array Value} {u1 u2 u3 u4 : Value} {v1 v2 v3 v4 : Value} {Q : Value → Shared → Prop} (D : ZA4 z TI TO i1 i2 i3 i4 l1 l2 l3 l4) (hz : IsZip s.heap z TI TO .none) (hTI : IsArr s.heap TI #[.ref i1, .ref i2, .ref i3, .ref i4]) (hTO : IsArr s.heap TO #[u1, u2, u3, u4]) (hI1 : KI t1 s.heap i1 l1 k1) (hI2 : KI t2 s.heap i2 l2 k2) (hI3 : KI t3 s.heap i3 l3 k3) (hI4 : KI t4 s.heap i4 l4 k4) (hS1 : KS t1 s.heap l1 xs1) (hS2 : KS t2 s.heap l2 xs2) (hS3 : KS t3 s.heap l3 xs3) (hS4 : KS t4 s.heap l4 xs4) (hx1 : xs1[k1]? = some v1) (hx2 : xs2[k2]? = some v2) (hx3 : xs3[k3]? = some v3) (hx4 : xs4[k4]? = some v4)
    (hQ : ∀ h', IsZip h' z TI TO (rawInt s.heap.objs.size) → IsArr h' TO #[v1, v2, v3, v4] → KI t1 h' i1 l1 (k1 + 1) → KI t2 h' i2 l2 (k2 + 1) → KI t3 h' i3 l3 (k3 + 1) → KI t4 h' i4 l4 (k4 + 1) → IsArr h' s.heap.objs.size #[v1, v2, v3, v4] → h'.objs.size = s.heap.objs.size + 1 → (∀ c o, c ≠ z → c ≠ TO → c ≠ i1 → c ≠ i2 → c ≠ i3 → c ≠ i4 → s.heap.get? c = some o → h'.get? c = some o) → Q (.ref s.heap.objs.size) { s with heap := h' }) : wpAny (model prog w) A (Builtin.«zip.__next__» ⟨[.ref z], []⟩) (fun fin s' => ∃ v, fin = .done (.ret v) ∧ Q v s') E s := by
  show wpAny _ _ (field (.ref z) 2 >>= _) _ _ _; refine wpAny_bind (wpAny_field hz rfl (x := .bool false) rfl ?_)
  show wpAny _ _ (field (.ref z) 3 >>= _) _ _ _; refine wpAny_bind (wpAny_field hz rfl (x := .ref TI) rfl ?_)
  refine wpAny_bind (wpAny_seqItems hTI rfl ?_); show wpAny _ _ (Builtin.SmallTypes.ownedTupleIsFree (.ref z) >>= _) _ _ _
  refine wpAny_bind ?_; unfold Builtin.SmallTypes.ownedTupleIsFree
  refine wpAny_bind (wpAny_field hz rfl (x := .none) rfl (wpAny_pure ?_)); simp only [if_true]
  refine wpAny_bind (wpAny_rule ?_); refine wpAny_bind (wpAny_field hz rfl (x := .ref TO) rfl ?_)
  refine wpAny_bind (wpAny_setField_rec hz (by simp) fun g0 hz0 sb0 => ?_); replace hz0 : IsZip g0 z TI TO .ellipsis := hz0
  have f0 : ∀ c o, c ≠ z → c ≠ TO → s.heap.get? c = some o → g0.get? c = some o := fun c o cz cO e => sb0.extBut _ _ cz e
  have a0 : IsArr g0 TO #[u1, u2, u3, u4] := sb0.extBut _ _ D.TOz hTO
  have hsz0 : g0.objs.size = s.heap.objs.size := by rw [sb0.1]
  refine wpAny_bind ?_; simp only [List.zipIdx_cons, List.zipIdx_nil, List.forIn_cons, List.forIn_nil]
  refine wpAny_bind (wpAny_bind (wpAny_onRaise ?_)); show wpAny _ _ (Builtin.SmallTypes.nextOf (.ref i1) >>= _) _ _ _
  refine wpAny_bind (k_item (hI1.at fun o e => f0 _ o D.i1z D.TOi1.symm  e) (hS1.at fun o e => f0 _ o D.l1z D.l1TO  e) hx1 fun m1 hJ1 sc1 => wpAny_pure ?_)
  have b1 : IsArr m1 TO #[u1, u2, u3, u4] := sc1.extBut _ _ D.TOi1 a0
  refine wpAny_bind (wpAny_seqItems b1 rfl ?_); refine wpAny_bind (up_arr b1 fun g1 a1 sb1 => ?_)
  replace a1 : IsArr g1 TO #[v1, u2, u3, u4] := a1
  refine wpAny_bind (wpAny_letGo (wpAny_pure ?_))
  have hz1 : IsZip g1 z TI TO .ellipsis := sb1.extBut _ _ D.TOz.symm (sc1.extBut _ _ D.i1z.symm hz0)
  have f1 : ∀ c o, c ≠ z → c ≠ TO → c ≠ i1 → s.heap.get? c = some o → g1.get? c = some o := fun c o cz cO c1 e => sb1.extBut _ _ cO (sc1.extBut _ _ c1 (f0 c o cz cO e))
  have hsz1 : g1.objs.size = s.heap.objs.size := by rw [sb1.1, sc1.1, hsz0]
  replace hJ1 : KI t1 g1 i1 l1 (k1 + 1) := hJ1.at fun o e => sb1.extBut _ _ D.TOi1.symm e
  refine wpAny_bind (wpAny_bind (wpAny_onRaise ?_)); show wpAny _ _ (Builtin.SmallTypes.nextOf (.ref i2) >>= _) _ _ _
  refine wpAny_bind (k_item (hI2.at fun o e => f1 _ o D.i2z D.TOi2.symm D.i12.symm e) (hS2.at fun o e => f1 _ o D.l2z D.l2TO D.l2i1 e) hx2 fun m2 hJ2 sc2 => wpAny_pure ?_)
  have b2 : IsArr m2 TO #[v1, u2, u3, u4] := sc2.extBut _ _ D.TOi2 a1
  refine wpAny_bind (wpAny_seqItems b2 rfl ?_); refine wpAny_bind (up_arr b2 fun g2 a2 sb2 => ?_)
  replace a2 : IsArr g2 TO #[v1, v2, u3, u4] := a2
  refine wpAny_bind (wpAny_letGo (wpAny_pure ?_))
  have hz2 : IsZip g2 z TI TO .ellipsis := sb2.extBut _ _ D.TOz.symm (sc2.extBut _ _ D.i2z.symm hz1)
  have f2 : ∀ c o, c ≠ z → c ≠ TO → c ≠ i1 → c ≠ i2 → s.heap.get? c = some o → g2.get? c = some o := fun c o cz cO c1 c2 e => sb2.extBut _ _ cO (sc2.extBut _ _ c2 (f1 c o cz cO c1 e))
  have hsz2 : g2.objs.size = s.heap.objs.size := by rw [sb2.1, sc2.1, hsz1]
  replace hJ1 : KI t1 g2 i1 l1 (k1 + 1) := (hJ1.at fun o e => sc2.extBut _ _ D.i12 e).at fun o e => sb2.extBut _ _ D.TOi1.symm e
  replace hJ2 : KI t2 g2 i2 l2 (k2 + 1) := hJ2.at fun o e => sb2.extBut _ _ D.TOi2.symm e
  refine wpAny_bind (wpAny_bind (wpAny_onRaise ?_)); show wpAny _ _ (Builtin.SmallTypes.nextOf (.ref i3) >>= _) _ _ _
  refine wpAny_bind (k_item (hI3.at fun o e => f2 _ o D.i3z D.TOi3.symm D.i13.symm D.i23.symm e) (hS3.at fun o e => f2 _ o D.l3z D.l3TO D.l3i1 D.l3i2 e) hx3 fun m3 hJ3 sc3 => wpAny_pure ?_)
  have b3 : IsArr m3 TO #[v1, v2, u3, u4] := sc3.extBut _ _ D.TOi3 a2
  refine wpAny_bind (wpAny_seqItems b3 rfl ?_); refine wpAny_bind (up_arr b3 fun g3 a3 sb3 => ?_)
  replace a3 : IsArr g3 TO #[v1, v2, v3, u4] := a3
  refine wpAny_bind (wpAny_letGo (wpAny_pure ?_))
  have hz3 : IsZip g3 z TI TO .ellipsis := sb3.extBut _ _ D.TOz.symm (sc3.extBut _ _ D.i3z.symm hz2)
  have f3 : ∀ c o, c ≠ z → c ≠ TO → c ≠ i1 → c ≠ i2 → c ≠ i3 → s.heap.get? c = some o → g3.get? c = some o := fun c o cz cO c1 c2 c3 e => sb3.extBut _ _ cO (sc3.extBut _ _ c3 (f2 c o cz cO c1 c2 e))
  have hsz3 : g3.objs.size = s.heap.objs.size := by rw [sb3.1, sc3.1, hsz2]
  replace hJ1 : KI t1 g3 i1 l1 (k1 + 1) := (hJ1.at fun o e => sc3.extBut _ _ D.i13 e).at fun o e => sb3.extBut _ _ D.TOi1.symm e
  replace hJ2 : KI t2 g3 i2 l2 (k2 + 1) := (hJ2.at fun o e => sc3.extBut _ _ D.i23 e).at fun o e => sb3.extBut _ _ D.TOi2.symm e
  replace hJ3 : KI t3 g3 i3 l3 (k3 + 1) := hJ3.at fun o e => sb3.extBut _ _ D.TOi3.symm e
  refine wpAny_bind (wpAny_bind (wpAny_onRaise ?_)); show wpAny _ _ (Builtin.SmallTypes.nextOf (.ref i4) >>= _) _ _ _
  refine wpAny_bind (k_item (hI4.at fun o e => f3 _ o D.i4z D.TOi4.symm D.i14.symm D.i24.symm D.i34.symm e) (hS4.at fun o e => f3 _ o D.l4z D.l4TO D.l4i1 D.l4i2 D.l4i3 e) hx4 fun m4 hJ4 sc4 => wpAny_pure ?_)
  have b4 : IsArr m4 TO #[v1, v2, v3, u4] := sc4.extBut _ _ D.TOi4 a3
  refine wpAny_bind (wpAny_seqItems b4 rfl ?_); refine wpAny_bind (up_arr b4 fun g4 a4 sb4 => ?_)
  replace a4 : IsArr g4 TO #[v1, v2, v3, v4] := a4
  refine wpAny_bind (wpAny_letGo (wpAny_pure (wpAny_pure ?_)))
  have hz4 : IsZip g4 z TI TO .ellipsis := sb4.extBut _ _ D.TOz.symm (sc4.extBut _ _ D.i4z.symm hz3)
  have f4 : ∀ c o, c ≠ z → c ≠ TO → c ≠ i1 → c ≠ i2 → c ≠ i3 → c ≠ i4 → s.heap.get? c = some o → g4.get? c = some o := fun c o cz cO c1 c2 c3 c4 e => sb4.extBut _ _ cO (sc4.extBut _ _ c4 (f3 c o cz cO c1 c2 c3 e))
  have hsz4 : g4.objs.size = s.heap.objs.size := by rw [sb4.1, sc4.1, hsz3]
  replace hJ1 : KI t1 g4 i1 l1 (k1 + 1) := (hJ1.at fun o e => sc4.extBut _ _ D.i14 e).at fun o e => sb4.extBut _ _ D.TOi1.symm e
  replace hJ2 : KI t2 g4 i2 l2 (k2 + 1) := (hJ2.at fun o e => sc4.extBut _ _ D.i24 e).at fun o e => sb4.extBut _ _ D.TOi2.symm e
  replace hJ3 : KI t3 g4 i3 l3 (k3 + 1) := (hJ3.at fun o e => sc4.extBut _ _ D.i34 e).at fun o e => sb4.extBut _ _ D.TOi3.symm e
  replace hJ4 : KI t4 g4 i4 l4 (k4 + 1) := hJ4.at fun o e => sb4.extBut _ _ D.TOi4.symm e
  refine wpAny_bind (wpAny_seqItems a4 rfl ?_); refine wpAny_bind (wpAny_newTuple ?_)
  have ltz : z < g4.objs.size := Heap.lt_size hz4
  show wpAny _ _ (Builtin.SmallTypes.ownedTupleHandOut (.ref z) (.ref g4.objs.size) >>= _) _ _ _; refine wpAny_bind ?_; unfold Builtin.SmallTypes.ownedTupleHandOut
  have y6 : IsZip (g4.push { cls := .type "tuple", data := .seq #[v1, v2, v3, v4] }) z TI TO .ellipsis := Heap.get?_push_of_some _ hz4
  refine wpAny_bind (wpAny_setField_rec y6 (by simp) fun w7 y7 s7 => ?_); replace y7 : IsZip w7 z TI TO (rawInt g4.objs.size) := y7
  refine wpAny_setField_rec y7 (by simp) fun w8 y8 s8 => ?_; replace y8 : IsZip w8 z TI TO (rawInt g4.objs.size) := y8
  have up : ∀ c o, c ≠ z → g4.get? c = some o → w8.get? c = some o := fun c o cz e => s8.extBut _ _ cz (s7.extBut _ _ cz (Heap.get?_push_of_some _ e))
  have t8 : IsArr w8 g4.objs.size #[v1, v2, v3, v4] := s8.extBut _ _ (Nat.ne_of_gt ltz) (s7.extBut _ _ (Nat.ne_of_gt ltz) (Heap.get?_push_size _ rfl))
  have e8 : w8.objs.size = g4.objs.size + 1 := by rw [s8.1, s7.1, Heap.size_push]
  rw [hsz4] at y8 t8 e8; refine wpAny_pure ⟨_, rfl, ?_⟩; show Q (.ref g4.objs.size) _; rw [hsz4]
  exact hQ w8 y8 (up _ _ D.TOz a4) (hJ1.at fun o e => up _ o D.i1z e) (hJ2.at fun o e => up _ o D.i2z e) (hJ3.at fun o e => up _ o D.i3z e) (hJ4.at fun o e => up _ o D.i4z e) t8 e8 fun c o cz cO c1 c2 c3 c4 e => up c o cz (f4 c o cz cO c1 c2 c3 c4 e)
theorem zn4_end {z TI TO i1 i2 i3 i4 l1 l2 l3 l4 : Addr} {t1 t2 t3 t4 : Bool} {k1 k2 k3 k4 : Nat} {xs1 xs2 xs3 xs4 : Array Value} {u1 u2 u3 u4 : Value} {Q : Fin → Shared → Prop} (hh : A.handled = none) (D : ZA4 z TI TO i1 i2 i3 i4 l1 l2 l3 l4) (hz : IsZip s.heap z TI TO .none) (hTI : IsArr s.heap TI #[.ref i1, .ref i2, .ref i3, .ref i4]) (hTO : IsArr s.heap TO #[u1, u2, u3, u4]) (hI1 : KI t1 s.heap i1 l1 k1) (hI2 : KI t2 s.heap i2 l2 k2) (hI3 : KI t3 s.heap i3 l3 k3) (hI4 : KI t4 s.heap i4 l4 k4) (hS1 : KS t1 s.heap l1 xs1) (hS2 : KS t2 s.heap l2 xs2) (hS3 : KS t3 s.heap l3 xs3) (hS4 : KS t4 s.heap l4 xs4) (hend : xs1[k1]? = none ∨ xs2[k2]? = none ∨ xs3[k3]? = none ∨ xs4[k4]? = none)
    (hE : ∀ h' e, (∀ c o, c ≠ z → c ≠ TO → c ≠ i1 → c ≠ i2 → c ≠ i3 → c ≠ i4 → s.heap.get? c = some o → h'.get? c = some o) → (∃ o, h'.get? e = some o ∧ o.cls = .type "StopIteration") → E (.ref e) { s with heap := h' }) : wpAny (model prog w) A (Builtin.«zip.__next__» ⟨[.ref z], []⟩) Q E s := by
  show wpAny _ _ (field (.ref z) 2 >>= _) _ _ _; refine wpAny_bind (wpAny_field hz rfl (x := .bool false) rfl ?_)
  show wpAny _ _ (field (.ref z) 3 >>= _) _ _ _; refine wpAny_bind (wpAny_field hz rfl (x := .ref TI) rfl ?_)
  refine wpAny_bind (wpAny_seqItems hTI rfl ?_); show wpAny _ _ (Builtin.SmallTypes.ownedTupleIsFree (.ref z) >>= _) _ _ _
  refine wpAny_bind ?_; unfold Builtin.SmallTypes.ownedTupleIsFree
  refine wpAny_bind (wpAny_field hz rfl (x := .none) rfl (wpAny_pure ?_)); simp only [if_true]
  refine wpAny_bind (wpAny_rule ?_); refine wpAny_bind (wpAny_field hz rfl (x := .ref TO) rfl ?_)
  refine wpAny_bind (wpAny_setField_rec hz (by simp) fun g0 hz0 sb0 => ?_); replace hz0 : IsZip g0 z TI TO .ellipsis := hz0
  have f0 : ∀ c o, c ≠ z → c ≠ TO → s.heap.get? c = some o → g0.get? c = some o := fun c o cz cO e => sb0.extBut _ _ cz e
  have a0 : IsArr g0 TO #[u1, u2, u3, u4] := sb0.extBut _ _ D.TOz hTO
  have hsz0 : g0.objs.size = s.heap.objs.size := by rw [sb0.1]
  refine wpAny_bind ?_; simp only [List.zipIdx_cons, List.zipIdx_nil, List.forIn_cons, List.forIn_nil]
  cases hx1 : xs1[k1]? with
  | none =>
    refine wpAny_bind (wpAny_bind (wpAny_onRaise ?_)); show wpAny _ _ (Builtin.SmallTypes.nextOf (.ref i1) >>= _) _ _ _
    refine wpAny_bind (k_end hh (hI1.at fun o e => f0 _ o D.i1z D.TOi1.symm  e) (hS1.at fun o e => f0 _ o D.l1z D.l1TO  e) hx1 fun r e hr he => ?_)
    obtain ⟨oe, eo, ec⟩ := he; have zr : IsZip r z TI TO .ellipsis := hr _ _ D.i1z.symm hz0
    have ez : e ≠ z := fun x => by subst x; rw [zr] at eo; cases eo; simp at ec
    refine wpAny_setField_rec zr (by simp) fun r2 _ sr => hE r2 e (fun c o cz cO c1 c2 c3 c4 x => sr.extBut _ _ cz (hr _ _ c1 (f0 c o cz cO x))) ⟨oe, sr.extBut _ _ ez eo, ec⟩
  | some v1 =>
  refine wpAny_bind (wpAny_bind (wpAny_onRaise ?_)); show wpAny _ _ (Builtin.SmallTypes.nextOf (.ref i1) >>= _) _ _ _
  refine wpAny_bind (k_item (hI1.at fun o e => f0 _ o D.i1z D.TOi1.symm  e) (hS1.at fun o e => f0 _ o D.l1z D.l1TO  e) hx1 fun m1 hJ1 sc1 => wpAny_pure ?_)
  have b1 : IsArr m1 TO #[u1, u2, u3, u4] := sc1.extBut _ _ D.TOi1 a0
  refine wpAny_bind (wpAny_seqItems b1 rfl ?_); refine wpAny_bind (up_arr b1 fun g1 a1 sb1 => ?_)
  replace a1 : IsArr g1 TO #[v1, u2, u3, u4] := a1
  refine wpAny_bind (wpAny_letGo (wpAny_pure ?_))
  have hz1 : IsZip g1 z TI TO .ellipsis := sb1.extBut _ _ D.TOz.symm (sc1.extBut _ _ D.i1z.symm hz0)
  have f1 : ∀ c o, c ≠ z → c ≠ TO → c ≠ i1 → s.heap.get? c = some o → g1.get? c = some o := fun c o cz cO c1 e => sb1.extBut _ _ cO (sc1.extBut _ _ c1 (f0 c o cz cO e))
  have hsz1 : g1.objs.size = s.heap.objs.size := by rw [sb1.1, sc1.1, hsz0]
  replace hJ1 : KI t1 g1 i1 l1 (k1 + 1) := hJ1.at fun o e => sb1.extBut _ _ D.TOi1.symm e
  cases hx2 : xs2[k2]? with
  | none =>
    refine wpAny_bind (wpAny_bind (wpAny_onRaise ?_)); show wpAny _ _ (Builtin.SmallTypes.nextOf (.ref i2) >>= _) _ _ _
    refine wpAny_bind (k_end hh (hI2.at fun o e => f1 _ o D.i2z D.TOi2.symm D.i12.symm e) (hS2.at fun o e => f1 _ o D.l2z D.l2TO D.l2i1 e) hx2 fun r e hr he => ?_)
    obtain ⟨oe, eo, ec⟩ := he; have zr : IsZip r z TI TO .ellipsis := hr _ _ D.i2z.symm hz1
    have ez : e ≠ z := fun x => by subst x; rw [zr] at eo; cases eo; simp at ec
    refine wpAny_setField_rec zr (by simp) fun r2 _ sr => hE r2 e (fun c o cz cO c1 c2 c3 c4 x => sr.extBut _ _ cz (hr _ _ c2 (f1 c o cz cO c1 x))) ⟨oe, sr.extBut _ _ ez eo, ec⟩
  | some v2 =>
  refine wpAny_bind (wpAny_bind (wpAny_onRaise ?_)); show wpAny _ _ (Builtin.SmallTypes.nextOf (.ref i2) >>= _) _ _ _
  refine wpAny_bind (k_item (hI2.at fun o e => f1 _ o D.i2z D.TOi2.symm D.i12.symm e) (hS2.at fun o e => f1 _ o D.l2z D.l2TO D.l2i1 e) hx2 fun m2 hJ2 sc2 => wpAny_pure ?_)
  have b2 : IsArr m2 TO #[v1, u2, u3, u4] := sc2.extBut _ _ D.TOi2 a1
  refine wpAny_bind (wpAny_seqItems b2 rfl ?_); refine wpAny_bind (up_arr b2 fun g2 a2 sb2 => ?_)
  replace a2 : IsArr g2 TO #[v1, v2, u3, u4] := a2
  refine wpAny_bind (wpAny_letGo (wpAny_pure ?_))
  have hz2 : IsZip g2 z TI TO .ellipsis := sb2.extBut _ _ D.TOz.symm (sc2.extBut _ _ D.i2z.symm hz1)
  have f2 : ∀ c o, c ≠ z → c ≠ TO → c ≠ i1 → c ≠ i2 → s.heap.get? c = some o → g2.get? c = some o := fun c o cz cO c1 c2 e => sb2.extBut _ _ cO (sc2.extBut _ _ c2 (f1 c o cz cO c1 e))
  have hsz2 : g2.objs.size = s.heap.objs.size := by rw [sb2.1, sc2.1, hsz1]
  replace hJ1 : KI t1 g2 i1 l1 (k1 + 1) := (hJ1.at fun o e => sc2.extBut _ _ D.i12 e).at fun o e => sb2.extBut _ _ D.TOi1.symm e
  replace hJ2 : KI t2 g2 i2 l2 (k2 + 1) := hJ2.at fun o e => sb2.extBut _ _ D.TOi2.symm e
  cases hx3 : xs3[k3]? with
  | none =>
    refine wpAny_bind (wpAny_bind (wpAny_onRaise ?_)); show wpAny _ _ (Builtin.SmallTypes.nextOf (.ref i3) >>= _) _ _ _
    refine wpAny_bind (k_end hh (hI3.at fun o e => f2 _ o D.i3z D.TOi3.symm D.i13.symm D.i23.symm e) (hS3.at fun o e => f2 _ o D.l3z D.l3TO D.l3i1 D.l3i2 e) hx3 fun r e hr he => ?_)
    obtain ⟨oe, eo, ec⟩ := he; have zr : IsZip r z TI TO .ellipsis := hr _ _ D.i3z.symm hz2
    have ez : e ≠ z := fun x => by subst x; rw [zr] at eo; cases eo; simp at ec
    refine wpAny_setField_rec zr (by simp) fun r2 _ sr => hE r2 e (fun c o cz cO c1 c2 c3 c4 x => sr.extBut _ _ cz (hr _ _ c3 (f2 c o cz cO c1 c2 x))) ⟨oe, sr.extBut _ _ ez eo, ec⟩
  | some v3 =>
  refine wpAny_bind (wpAny_bind (wpAny_onRaise ?_)); show wpAny _ _ (Builtin.SmallTypes.nextOf (.ref i3) >>= _) _ _ _
  refine wpAny_bind (k_item (hI3.at fun o e => f2 _ o D.i3z D.TOi3.symm D.i13.symm D.i23.symm e) (hS3.at fun o e => f2 _ o D.l3z D.l3TO D.l3i1 D.l3i2 e) hx3 fun m3 hJ3 sc3 => wpAny_pure ?_)
  have b3 : IsArr m3 TO #[v1, v2, u3, u4] := sc3.extBut _ _ D.TOi3 a2
  refine wpAny_bind (wpAny_seqItems b3 rfl ?_); refine wpAny_bind (up_arr b3 fun g3 a3 sb3 => ?_)
  replace a3 : IsArr g3 TO #[v1, v2, v3, u4] := a3
  refine wpAny_bind (wpAny_letGo (wpAny_pure ?_))
  have hz3 : IsZip g3 z TI TO .ellipsis := sb3.extBut _ _ D.TOz.symm (sc3.extBut _ _ D.i3z.symm hz2)
  have f3 : ∀ c o, c ≠ z → c ≠ TO → c ≠ i1 → c ≠ i2 → c ≠ i3 → s.heap.get? c = some o → g3.get? c = some o := fun c o cz cO c1 c2 c3 e => sb3.extBut _ _ cO (sc3.extBut _ _ c3 (f2 c o cz cO c1 c2 e))
  have hsz3 : g3.objs.size = s.heap.objs.size := by rw [sb3.1, sc3.1, hsz2]
  replace hJ1 : KI t1 g3 i1 l1 (k1 + 1) := (hJ1.at fun o e => sc3.extBut _ _ D.i13 e).at fun o e => sb3.extBut _ _ D.TOi1.symm e
  replace hJ2 : KI t2 g3 i2 l2 (k2 + 1) := (hJ2.at fun o e => sc3.extBut _ _ D.i23 e).at fun o e => sb3.extBut _ _ D.TOi2.symm e
  replace hJ3 : KI t3 g3 i3 l3 (k3 + 1) := hJ3.at fun o e => sb3.extBut _ _ D.TOi3.symm e
  cases hx4 : xs4[k4]? with
  | none =>
    refine wpAny_bind (wpAny_bind (wpAny_onRaise ?_)); show wpAny _ _ (Builtin.SmallTypes.nextOf (.ref i4) >>= _) _ _ _
    refine wpAny_bind (k_end hh (hI4.at fun o e => f3 _ o D.i4z D.TOi4.symm D.i14.symm D.i24.symm D.i34.symm e) (hS4.at fun o e => f3 _ o D.l4z D.l4TO D.l4i1 D.l4i2 D.l4i3 e) hx4 fun r e hr he => ?_)
    obtain ⟨oe, eo, ec⟩ := he; have zr : IsZip r z TI TO .ellipsis := hr _ _ D.i4z.symm hz3
    have ez : e ≠ z := fun x => by subst x; rw [zr] at eo; cases eo; simp at ec
    refine wpAny_setField_rec zr (by simp) fun r2 _ sr => hE r2 e (fun c o cz cO c1 c2 c3 c4 x => sr.extBut _ _ cz (hr _ _ c4 (f3 c o cz cO c1 c2 c3 x))) ⟨oe, sr.extBut _ _ ez eo, ec⟩
  | some v4 =>
  rcases hend with h | h | h | h
  · rw [hx1] at h; cases h
  · rw [hx2] at h; cases h
  · rw [hx3] at h; cases h
  · rw [hx4] at h; cases h
theorem pn4_item {z TI TO i1 i2 i3 i4 l1 l2 l3 l4 : Addr} {t1 t2 t3 t4 : Bool} {k1 k2 k3 k4 : Nat} {xs1 xs2 xs3 xs4 : Array Value} {u1 u2 u3 u4 : Value} {v1 v2 v3 v4 : Value} {Q : Option Value → Shared → Prop} (D : ZA4 z TI TO i1 i2 i3 i4 l1 l2 l3 l4) (hz : IsZip s.heap z TI TO .none) (hTI : IsArr s.heap TI #[.ref i1, .ref i2, .ref i3, .ref i4]) (hTO : IsArr s.heap TO #[u1, u2, u3, u4]) (hI1 : KI t1 s.heap i1 l1 k1) (hI2 : KI t2 s.heap i2 l2 k2) (hI3 : KI t3 s.heap i3 l3 k3) (hI4 : KI t4 s.heap i4 l4 k4) (hS1 : KS t1 s.heap l1 xs1) (hS2 : KS t2 s.heap l2 xs2) (hS3 : KS t3 s.heap l3 xs3) (hS4 : KS t4 s.heap l4 xs4) (hx1 : xs1[k1]? = some v1) (hx2 : xs2[k2]? = some v2) (hx3 : xs3[k3]? = some v3) (hx4 : xs4[k4]? = some v4)
    (hQ : ∀ h', IsZip h' z TI TO (rawInt s.heap.objs.size) → IsArr h' TO #[v1, v2, v3, v4] → KI t1 h' i1 l1 (k1 + 1) → KI t2 h' i2 l2 (k2 + 1) → KI t3 h' i3 l3 (k3 + 1) → KI t4 h' i4 l4 (k4 + 1) → IsArr h' s.heap.objs.size #[v1, v2, v3, v4] → h'.objs.size = s.heap.objs.size + 1 → (∀ c o, c ≠ z → c ≠ TO → c ≠ i1 → c ≠ i2 → c ≠ i3 → c ≠ i4 → s.heap.get? c = some o → h'.get? c = some o) → Q (some (.ref s.heap.objs.size)) { s with heap := h' }) : wpAny (model prog w) A (pyNext (.ref z)) Q E s := by
  unfold pyNext
  exact wpAny_bind (wpAny_attempt (wpAny_callSpecial?_slot (name := Str.ofString "__next__") (show s.TypeIs (.ref z) "zip" from ⟨_, hz, rfl⟩) F.slot_zip_next (wpAny_call_entry F.slot_zip_next (show s.TypeIs (.ref z) "zip" from ⟨_, hz, rfl⟩) F.entry_zip_next
      (zn4_item D hz hTI hTO hI1 hI2 hI3 hI4 hS1 hS2 hS3 hS4 hx1 hx2 hx3 hx4 fun h' q0 q1 q2 q3 q4 q5 q6 q7 q8 => wpAny_pure (hQ h' q0 q1 q2 q3 q4 q5 q6 q7 q8)) (F.args_zip_next_1 _))))
theorem pn4_end {z TI TO i1 i2 i3 i4 l1 l2 l3 l4 : Addr} {t1 t2 t3 t4 : Bool} {k1 k2 k3 k4 : Nat} {xs1 xs2 xs3 xs4 : Array Value} {u1 u2 u3 u4 : Value} {Q : Option Value → Shared → Prop} (hh : A.handled = none) (D : ZA4 z TI TO i1 i2 i3 i4 l1 l2 l3 l4) (hz : IsZip s.heap z TI TO .none) (hTI : IsArr s.heap TI #[.ref i1, .ref i2, .ref i3, .ref i4]) (hTO : IsArr s.heap TO #[u1, u2, u3, u4]) (hI1 : KI t1 s.heap i1 l1 k1) (hI2 : KI t2 s.heap i2 l2 k2) (hI3 : KI t3 s.heap i3 l3 k3) (hI4 : KI t4 s.heap i4 l4 k4) (hS1 : KS t1 s.heap l1 xs1) (hS2 : KS t2 s.heap l2 xs2) (hS3 : KS t3 s.heap l3 xs3) (hS4 : KS t4 s.heap l4 xs4) (hend : xs1[k1]? = none ∨ xs2[k2]? = none ∨ xs3[k3]? = none ∨ xs4[k4]? = none)
    (hQ : ∀ h', (∀ c o, c ≠ z → c ≠ TO → c ≠ i1 → c ≠ i2 → c ≠ i3 → c ≠ i4 → s.heap.get? c = some o → h'.get? c = some o) → Q none { s with heap := h' }) : wpAny (model prog w) A (pyNext (.ref z)) Q E s := by
  unfold pyNext
  refine wpAny_bind (wpAny_attempt (wpAny_callSpecial?_slot (name := Str.ofString "__next__") (show s.TypeIs (.ref z) "zip" from ⟨_, hz, rfl⟩) F.slot_zip_next (wpAny_call_entry F.slot_zip_next (show s.TypeIs (.ref z) "zip" from ⟨_, hz, rfl⟩) F.entry_zip_next (zn4_end hh D hz hTI hTO hI1 hI2 hI3 hI4 hS1 hS2 hS3 hS4 hend fun h' e hk he => ?_) (F.args_zip_next_1 _))))
  obtain ⟨o, ho, hc⟩ := he; exact wpAny_bind (wpAny_isInstance (T := "StopIteration") (b := true) ⟨o, ho, hc⟩ isSubtype_stop (wpAny_pure (hQ _ hk)))
end
abbrev N4_1 (h : Heap) (t1 t2 t3 t4 : Bool) (l1 l2 l3 l4 : Addr) : Heap := Heap.push h { cls := .type (KC t1), data := .fields #[.ref l1, .int 0 0] }
abbrev N4_2 (h : Heap) (t1 t2 t3 t4 : Bool) (l1 l2 l3 l4 : Addr) : Heap := Heap.push (N4_1 h t1 t2 t3 t4 l1 l2 l3 l4) { cls := .type (KC t2), data := .fields #[.ref l2, .int 0 0] }
abbrev N4_3 (h : Heap) (t1 t2 t3 t4 : Bool) (l1 l2 l3 l4 : Addr) : Heap := Heap.push (N4_2 h t1 t2 t3 t4 l1 l2 l3 l4) { cls := .type (KC t3), data := .fields #[.ref l3, .int 0 0] }
abbrev N4_4 (h : Heap) (t1 t2 t3 t4 : Bool) (l1 l2 l3 l4 : Addr) : Heap := Heap.push (N4_3 h t1 t2 t3 t4 l1 l2 l3 l4) { cls := .type (KC t4), data := .fields #[.ref l4, .int 0 0] }
abbrev N4_5 (h : Heap) (t1 t2 t3 t4 : Bool) (l1 l2 l3 l4 : Addr) : Heap := Heap.push (N4_4 h t1 t2 t3 t4 l1 l2 l3 l4) { cls := .type "tuple", data := .seq #[.ref h.objs.size, .ref (N4_1 h t1 t2 t3 t4 l1 l2 l3 l4).objs.size, .ref (N4_2 h t1 t2 t3 t4 l1 l2 l3 l4).objs.size, .ref (N4_3 h t1 t2 t3 t4 l1 l2 l3 l4).objs.size] }
abbrev N4_6 (h : Heap) (t1 t2 t3 t4 : Bool) (l1 l2 l3 l4 : Addr) : Heap := Heap.push (N4_5 h t1 t2 t3 t4 l1 l2 l3 l4) { cls := .type "tuple", data := .seq #[.none, .none, .none, .none] }
abbrev N4_7 (h : Heap) (t1 t2 t3 t4 : Bool) (l1 l2 l3 l4 : Addr) : Heap := Heap.push (N4_6 h t1 t2 t3 t4 l1 l2 l3 l4) { cls := .type "zip", data := .fields #[.none, .bool false, .bool false, .ref (N4_4 h t1 t2 t3 t4 l1 l2 l3 l4).objs.size, .ref (N4_5 h t1 t2 t3 t4 l1 l2 l3 l4).objs.size] }
theorem meets_zn4 (t1 t2 t3 t4 : Bool) (l1 l2 l3 l4 : Addr) (xs1 xs2 xs3 xs4 : Array Value) : Meets (Builtin.«zip.__new__» ⟨[.type "zip", .ref l1, .ref l2, .ref l3, .ref l4], []⟩) (fun _ R s => KS t1 s.heap l1 xs1 ∧ KS t2 s.heap l2 xs2 ∧ KS t3 s.heap l3 xs3 ∧ KS t4 s.heap l4 xs4 ∧ R (.ok (.ret (.ref (N4_6 s.heap t1 t2 t3 t4 l1 l2 l3 l4).objs.size))) { s with heap := N4_7 s.heap t1 t2 t3 t4 l1 l2 l3 l4 }) :=
  .of_wp fun prog w A R s h => by
    obtain ⟨hp, g, d, tk, os⟩ := s; obtain ⟨r1, r2, r3, r4, h⟩ := h
    have hsub := sub_zip
    have p1 : KS t1 (Shared.heap ⟨hp, g, d, tk, os⟩) l1 xs1 := r1
    have p2 : KS t2 (Shared.heap ⟨N4_1 hp t1 t2 t3 t4 l1 l2 l3 l4, g, d, tk, os⟩) l2 xs2 := KS.at r2 fun o e => Heap.get?_push_of_some _ e
    have p3 : KS t3 (Shared.heap ⟨N4_2 hp t1 t2 t3 t4 l1 l2 l3 l4, g, d, tk, os⟩) l3 xs3 := KS.at r3 fun o e => Heap.get?_push_of_some _ (Heap.get?_push_of_some _ e)
    have p4 : KS t4 (Shared.heap ⟨N4_3 hp t1 t2 t3 t4 l1 l2 l3 l4, g, d, tk, os⟩) l4 xs4 := KS.at r4 fun o e => Heap.get?_push_of_some _ (Heap.get?_push_of_some _ (Heap.get?_push_of_some _ e))
    wp_walk using k_iter p1, k_iter p2, k_iter p3, k_iter p4
    exact ⟨_, rfl, h⟩
theorem typeCall_4 (a1 a2 a3 a4 : Value) : checkTypeCall "zip" ⟨[a1, a2, a3, a4], []⟩ = pure () := by kernel_rfl
theorem newCall_4 (a1 a2 a3 a4 : Value) : checkBuiltinCall "zip.__new__" ⟨[.type "zip", a1, a2, a3, a4], []⟩ = pure () := by kernel_rfl
theorem argsInit_4 (a1 a2 a3 a4 a0 : Value) : argsOk "object.__init__" ⟨[a0, a1, a2, a3, a4], []⟩ := by
  unfold argsOk; rw [signature?_of (id := "object.__init__") (n := ['_', '_', 't', 'i', 'n', 'i', '_', '_']) (o := ['t', 'c', 'e', 'j', 'b', 'o']) (by kernel_rfl) F.owner_object] <;> kernel_rfl
section
variable {prog : Program} {w : World} {A : Around} {E : Value → Shared → Prop} {s : Shared}
theorem call_z4 {t1 t2 t3 t4 : Bool} {l1 l2 l3 l4 : Addr} {xs1 xs2 xs3 xs4 : Array Value} {Q : Value → Shared → Prop} (hS1 : KS t1 s.heap l1 xs1) (hS2 : KS t2 s.heap l2 xs2) (hS3 : KS t3 s.heap l3 xs3) (hS4 : KS t4 s.heap l4 xs4)
    (h : ∀ h', IsZip h' (s.heap.objs.size + 6) (s.heap.objs.size + 4) (s.heap.objs.size + 5) .none → IsArr h' (s.heap.objs.size + 4) #[.ref s.heap.objs.size, .ref (s.heap.objs.size + 1), .ref (s.heap.objs.size + 2), .ref (s.heap.objs.size + 3)] → IsArr h' (s.heap.objs.size + 5) #[.none, .none, .none, .none] → KI t1 h' s.heap.objs.size l1 0 → KI t2 h' (s.heap.objs.size + 1) l2 0 → KI t3 h' (s.heap.objs.size + 2) l3 0 → KI t4 h' (s.heap.objs.size + 3) l4 0 →
      (∀ c o, s.heap.get? c = some o → h'.get? c = some o) → Q (.ref (s.heap.objs.size + 6)) { s with heap := h' }) : wpAny (model prog w) A (call (.type "zip") [.ref l1, .ref l2, .ref l3, .ref l4]) Q E s := by
  refine callType_new F.called_zip (by decide) (typeCall_4 _ _ _ _ ) (newCall_4 _ _ _ _ ) (fun obj => argsInit_4 _ _ _ _ obj) F.entry_zip_new (meets_zn4 t1 t2 t3 t4 l1 l2 l3 l4 xs1 xs2 xs3 xs4) ⟨hS1, hS2, hS3, hS4, ?_⟩
  have z1 : (N4_1 s.heap t1 t2 t3 t4 l1 l2 l3 l4).objs.size = s.heap.objs.size + 1 := Heap.size_push ..
  have z2 : (N4_2 s.heap t1 t2 t3 t4 l1 l2 l3 l4).objs.size = s.heap.objs.size + 2 := by rw [Heap.size_push, z1]
  have z3 : (N4_3 s.heap t1 t2 t3 t4 l1 l2 l3 l4).objs.size = s.heap.objs.size + 3 := by rw [Heap.size_push, z2]
  have z4 : (N4_4 s.heap t1 t2 t3 t4 l1 l2 l3 l4).objs.size = s.heap.objs.size + 4 := by rw [Heap.size_push, z3]
  have z5 : (N4_5 s.heap t1 t2 t3 t4 l1 l2 l3 l4).objs.size = s.heap.objs.size + 5 := by rw [Heap.size_push, z4]
  have z6 : (N4_6 s.heap t1 t2 t3 t4 l1 l2 l3 l4).objs.size = s.heap.objs.size + 6 := by rw [Heap.size_push, z5]
  have z7 : (N4_7 s.heap t1 t2 t3 t4 l1 l2 l3 l4).objs.size = s.heap.objs.size + 7 := by rw [Heap.size_push, z6]
  have g0 : (N4_7 s.heap t1 t2 t3 t4 l1 l2 l3 l4).get? s.heap.objs.size = some _ := Heap.get?_push_of_some _ (Heap.get?_push_of_some _ (Heap.get?_push_of_some _ (Heap.get?_push_of_some _ (Heap.get?_push_of_some _ (Heap.get?_push_of_some _ (Heap.get?_push_size _ rfl))))))
  have g1 : (N4_7 s.heap t1 t2 t3 t4 l1 l2 l3 l4).get? (N4_1 s.heap t1 t2 t3 t4 l1 l2 l3 l4).objs.size = some _ := Heap.get?_push_of_some _ (Heap.get?_push_of_some _ (Heap.get?_push_of_some _ (Heap.get?_push_of_some _ (Heap.get?_push_of_some _ (Heap.get?_push_size _ rfl)))))
  have g2 : (N4_7 s.heap t1 t2 t3 t4 l1 l2 l3 l4).get? (N4_2 s.heap t1 t2 t3 t4 l1 l2 l3 l4).objs.size = some _ := Heap.get?_push_of_some _ (Heap.get?_push_of_some _ (Heap.get?_push_of_some _ (Heap.get?_push_of_some _ (Heap.get?_push_size _ rfl))))
  have g3 : (N4_7 s.heap t1 t2 t3 t4 l1 l2 l3 l4).get? (N4_3 s.heap t1 t2 t3 t4 l1 l2 l3 l4).objs.size = some _ := Heap.get?_push_of_some _ (Heap.get?_push_of_some _ (Heap.get?_push_of_some _ (Heap.get?_push_size _ rfl)))
  have g4 : (N4_7 s.heap t1 t2 t3 t4 l1 l2 l3 l4).get? (N4_4 s.heap t1 t2 t3 t4 l1 l2 l3 l4).objs.size = some _ := Heap.get?_push_of_some _ (Heap.get?_push_of_some _ (Heap.get?_push_size _ rfl))
  have g5 : (N4_7 s.heap t1 t2 t3 t4 l1 l2 l3 l4).get? (N4_5 s.heap t1 t2 t3 t4 l1 l2 l3 l4).objs.size = some _ := Heap.get?_push_of_some _ (Heap.get?_push_size _ rfl)
  have g6 : (N4_7 s.heap t1 t2 t3 t4 l1 l2 l3 l4).get? (N4_6 s.heap t1 t2 t3 t4 l1 l2 l3 l4).objs.size = some _ := Heap.get?_push_size _ rfl
  show _ ∧ _
  rw [z4, z5, z6] at g6
  rw [z5] at g5
  rw [z1, z2, z3, z4] at g4
  rw [z1] at g1
  rw [z2] at g2
  rw [z3] at g3
  rw [z6]
  exact ⟨⟨_, g6, rfl⟩, h _ g6 g4 g5 (KI.new g0) (KI.new g1) (KI.new g2) (KI.new g3) fun c o x => Heap.get?_push_of_some _ (Heap.get?_push_of_some _ (Heap.get?_push_of_some _ (Heap.get?_push_of_some _ (Heap.get?_push_of_some _ (Heap.get?_push_of_some _ (Heap.get?_push_of_some _ x))))))⟩
end
def It4 (K : PySem.W.Frag) (t1 t2 t3 t4 : Bool) (a1 a2 a3 a4 : Addr) : It :=
  ⟨fun i H => ∃ (xs1 xs2 xs3 xs4 : List V) (x1 x2 x3 x4 : V), Sq K t1 H a1 xs1 ∧ Sq K t2 H a2 xs2 ∧ Sq K t3 H a3 xs3 ∧ Sq K t4 H a4 xs4 ∧ xs1[i]? = some x1 ∧ xs2[i]? = some x2 ∧ xs3[i]? = some x3 ∧ xs4[i]? = some x4,
    fun i H v H' => ∃ T x1 x2 x3 x4, v = .ref T ∧ H T = none ∧ H' = upd H T (.tup [x1, x2, x3, x4]) ∧ (∀ xs, Sq K t1 H a1 xs → xs[i]? = some x1) ∧ (∀ xs, Sq K t2 H a2 xs → xs[i]? = some x2) ∧ (∀ xs, Sq K t3 H a3 xs → xs[i]? = some x3) ∧ (∀ xs, Sq K t4 H a4 xs → xs[i]? = some x4),
    fun i H => ∃ xs1 xs2 xs3 xs4 : List V, Sq K t1 H a1 xs1 ∧ Sq K t2 H a2 xs2 ∧ Sq K t3 H a3 xs3 ∧ Sq K t4 H a4 xs4 ∧ (xs1.length ≤ i ∨ xs2.length ≤ i ∨ xs3.length ≤ i ∨ xs4.length ≤ i)⟩
theorem turn_z4 {P : Program} {w : World} {K : PySem.W.Frag} {elts : List Expr} {kk : Nat} {tpos : Pos} {t1 t2 t3 t4 : Bool} {a1 a2 a3 a4 z TI TO i1 i2 i3 i4 : Addr} (D : ZA4 z TI TO i1 i2 i3 i4 a1 a2 a3 a4) :
    Turn P w K (.Tuple elts kk tpos) (It4 K t1 t2 t3 t4 a1 a2 a3 a4) [z, TI, TO, i1, i2, i3, i4] z (fun i h => IsZip h z TI TO .none ∧ IsArr h TI #[.ref i1, .ref i2, .ref i3, .ref i4] ∧ (∃ u1 u2 u3 u4, IsArr h TO #[u1, u2, u3, u4]) ∧ KI t1 h i1 a1 i ∧ KI t2 h i2 a2 i ∧ KI t3 h i3 a3 i ∧ KI t4 h i4 a4 i) where
  mem := by simp
  obj := fun i h st c hc => by
    obtain ⟨hz, hTI, ⟨w1, w2, w3, w4, hTO⟩, hI1, hI2, hI3, hI4⟩ := st
    have e' : c = z ∨ c = TI ∨ c = TO ∨ c = i1 ∨ c = i2 ∨ c = i3 ∨ c = i4 := by simpa using hc
    rcases e' with q | q | q | q | q | q | q
    · rw [q]; exact ⟨_, hz, fun v r => nomatch r⟩
    · rw [q]; exact ⟨_, hTI, fun v r => nomatch r⟩
    · rw [q]; exact ⟨_, hTO, fun v r => nomatch r⟩
    · rw [q]; exact hI1.ob
    · rw [q]; exact hI2.ob
    · rw [q]; exact hI3.ob
    · rw [q]; exact hI4.ob
  keep := fun i h h' st k => by
    obtain ⟨hz, hTI, ⟨w1, w2, w3, w4, hTO⟩, hI1, hI2, hI3, hI4⟩ := st
    exact ⟨k z (by simp) _ hz, k TI (by simp) _ hTI, ⟨w1, w2, w3, w4, k TO (by simp) _ hTO⟩, hI1.at fun o q => k i1 (by simp) o q, hI2.at fun o q => k i2 (by simp) o q, hI3.at fun o q => k i3 (by simp) o q, hI4.at fun o q => k i4 (by simp) o q⟩
  item := by
    intro X hP hw hK hc i pins s σ H E I hf st hg
    subst hP hw hK
    obtain ⟨hz, hTI, ⟨w1, w2, w3, w4, hTO⟩, hI1, hI2, hI3, hI4⟩ := st
    obtain ⟨xs1, xs2, xs3, xs4, x1, x2, x3, x4, hq1, hq2, hq3, hq4, hx1, hx2, hx3, hx4⟩ := hg
    obtain ⟨its1, rv1, p1⟩ := sq_in I hq1
    obtain ⟨v1, hv1, ru1⟩ := rv1.get hx1
    obtain ⟨its2, rv2, p2⟩ := sq_in I hq2
    obtain ⟨v2, hv2, ru2⟩ := rv2.get hx2
    obtain ⟨its3, rv3, p3⟩ := sq_in I hq3
    obtain ⟨v3, hv3, ru3⟩ := rv3.get hx3
    obtain ⟨its4, rv4, p4⟩ := sq_in I hq4
    obtain ⟨v4, hv4, ru4⟩ := rv4.get hx4
    have zl : z < s.heap.objs.size := Heap.lt_size hz
    refine pn4_item D hz hTI hTO hI1 hI2 hI3 hI4 p1 p2 p3 p4 (v1 := v1) (v2 := v2) (v3 := v3) (v4 := v4) (by simpa using hv1) (by simpa using hv2) (by simpa using hv3) (by simpa using hv4) fun h' z' TO' hJ1 hJ2 hJ3 hJ4 hT hsz hk => ?_
    refine ⟨_, rfl, wpAny_letOwnedTupleGo_zip (s := { s with heap := h' }) z' fun h'' z'' sb => ?_⟩
    have hT2 : h''.get? s.heap.objs.size = some { cls := .type "tuple", data := .seq #[v1, v2, v3, v4] } := (sb.2 _ (Nat.ne_of_gt zl)).trans hT
    have new : ObjOk X.prog X.w (upd H s.heap.objs.size (.tup [x1, x2, x3, x4])) h'' s.heap.objs.size (.tup [x1, x2, x3, x4]) := ⟨by show 4 ≤ sizeLine; decide, [v1, v2, v3, v4], (.cons ru1 (.cons ru2 (.cons ru3 (.cons ru4 .nil)))), ⟨_, hT2, rfl, _, rfl⟩⟩
    have I1 : Inv X pins σ (upd H s.heap.objs.size (.tup [x1, x2, x3, x4])) { s with heap := h'' } :=
      I.turnedNew (t' := s.toks) (ch := [z, TI, TO, i1, i2, i3, i4]) (fun c o hb q => (sb.2 c (fun r => hb (by simp [r]))).trans (hk c o (fun r => hb (by simp [r])) (fun r => hb (by simp [r])) (fun r => hb (by simp [r])) (fun r => hb (by simp [r])) (fun r => hb (by simp [r])) (fun r => hb (by simp [r])) q)) hf (Nat.le_refl _) new
    refine ⟨.ref s.heap.objs.size, _, I1, rfl, ⟨_, x1, x2, x3, x4, rfl, I.hok.fresh (Nat.le_refl _), rfl, fun l hl => by rw [sq_inj I hl hq1]; exact hx1, fun l hl => by rw [sq_inj I hl hq2]; exact hx2, fun l hl => by rw [sq_inj I hl hq3]; exact hx3, fun l hl => by rw [sq_inj I hl hq4]; exact hx4⟩, ⟨z'', ?_, ⟨v1, v2, v3, v4, ?_⟩, ?_, ?_, ?_, ?_⟩, fun c hcm => ?_⟩
    · exact (sb.2 _ D.TIz).trans (hk _ _ D.TIz D.TITO D.TIi1 D.TIi2 D.TIi3 D.TIi4 hTI)
    · exact (sb.2 _ D.TOz).trans TO'
    · exact hJ1.at fun o q => (sb.2 _ D.i1z).trans q
    · exact hJ2.at fun o q => (sb.2 _ D.i2z).trans q
    · exact hJ3.at fun o q => (sb.2 _ D.i3z).trans q
    · exact hJ4.at fun o q => (sb.2 _ D.i4z).trans q
    · have hlt : c < s.heap.objs.size := by
        have e' : c = z ∨ c = TI ∨ c = TO ∨ c = i1 ∨ c = i2 ∨ c = i3 ∨ c = i4 := by simpa using hcm
        rcases e' with q | q | q | q | q | q | q
        · rw [q]; exact zl
        · rw [q]; exact Heap.lt_size hTI
        · rw [q]; exact Heap.lt_size hTO
        · rw [q]; exact hI1.lt
        · rw [q]; exact hI2.lt
        · rw [q]; exact hI3.lt
        · rw [q]; exact hI4.lt
      rw [upd_ne (Nat.ne_of_lt hlt)] <;> exact (hf c hcm).1
  done := by
    intro X hP hw hK hc i pins s σ H E I hf st hg
    subst hP hw hK
    obtain ⟨hz, hTI, ⟨w1, w2, w3, w4, hTO⟩, hI1, hI2, hI3, hI4⟩ := st
    obtain ⟨xs1, xs2, xs3, xs4, hq1, hq2, hq3, hq4, hend⟩ := hg
    obtain ⟨its1, rv1, p1⟩ := sq_in I hq1
    have e1 := rv1.length
    obtain ⟨its2, rv2, p2⟩ := sq_in I hq2
    have e2 := rv2.length
    obtain ⟨its3, rv3, p3⟩ := sq_in I hq3
    have e3 := rv3.length
    obtain ⟨its4, rv4, p4⟩ := sq_in I hq4
    have e4 := rv4.length
    have he : its1.toArray[i]? = none ∨ its2.toArray[i]? = none ∨ its3.toArray[i]? = none ∨ its4.toArray[i]? = none := by
      rcases hend with q | q | q | q
      · exact .inl (by simp; omega)
      · exact .inr (.inl (by simp; omega))
      · exact .inr (.inr (.inl (by simp; omega)))
      · exact .inr (.inr (.inr ((by simp; omega))))
    exact pn4_end (I.ok.hd hc) D hz hTI hTO hI1 hI2 hI3 hI4 p1 p2 p3 p4 he fun h' hk => ⟨rfl, I.turnedL (t' := s.toks) (ch := [z, TI, TO, i1, i2, i3, i4]) (fun c o hb q => hk c o (fun r => hb (by simp [r])) (fun r => hb (by simp [r])) (fun r => hb (by simp [r])) (fun r => hb (by simp [r])) (fun r => hb (by simp [r])) (fun r => hb (by simp [r])) q) hf⟩
  self := fun B i s Q E st h => wpAny_pyIter_zip st.1 h
def iZ4 (K : PySem.W.Frag) (ta : TA) : TI := fun σ H R => ta σ H fun vs H1 => ∃ (t1 t2 t3 t4 : Bool) (a1 a2 a3 a4 : Addr) (xs1 xs2 xs3 xs4 : List V), vs = [.ref a1, .ref a2, .ref a3, .ref a4] ∧ Sq K t1 H1 a1 xs1 ∧ Sq K t2 H1 a2 xs2 ∧ Sq K t3 H1 a3 xs3 ∧ Sq K t4 H1 a4 xs4 ∧ R (It4 K t1 t2 t3 t4 a1 a2 a3 a4) H1
theorem pi_z4 {X : Cx} {e1 e2 e3 e4 : Expr} {ta : TA} {p pos tpos : Pos} {elts : List Expr} {kk : Nat} (hg : Gl X "zip") (hm : X.mg "zip" = none) (ha : PA X [e1, e2, e3, e4] ta)
    (hs : starEach [e1, e2, e3, e4] X.env = (false, eval e1 X.env) :: starEach [e2, e3, e4] X.env := by rfl) (hpl : (backTo pos (starEach [e2, e3, e4] X.env)).any (·.1) = false := by rfl) :
    PI X (.Tuple elts kk tpos) (.Call (.Name "zip" p) [e1, e2, e3, e4] [] pos) (iZ4 X.K ta) := by
  refine ⟨fun pins s σ H R I h => ?_⟩
  refine Call_ (ld_blt I hg hm PyProof.Rows.boot_zip (PyProof.Rows.callWith_type1 (thn (ha.run pos pins s σ H _ I h) fun us s1 ⟨vs, H1, I1, r1, q1⟩ => ?_) hs hpl))
  obtain ⟨t1, t2, t3, t4, a1, a2, a3, a4, xs1, xs2, xs3, xs4, rfl, hq1, hq2, hq3, hq4, q⟩ := q1
  cases r1 with
  | cons b1 c1 =>
    cases c1 with
    | cons b2 c2 =>
      cases c2 with
      | cons b3 c3 =>
        cases c3 with
        | cons b4 c4 =>
          cases c4
          cases b1
          cases b2
          cases b3
          cases b4
          have fresh : ∀ c, c ∈ [s1.heap.objs.size + 6, s1.heap.objs.size + 4, s1.heap.objs.size + 5, s1.heap.objs.size, s1.heap.objs.size + 1, s1.heap.objs.size + 2, s1.heap.objs.size + 3] → FpOk X pins H1 c := fun c hcm => by
            have e' : c = s1.heap.objs.size + 6 ∨ c = s1.heap.objs.size + 4 ∨ c = s1.heap.objs.size + 5 ∨ c = s1.heap.objs.size ∨ c = s1.heap.objs.size + 1 ∨ c = s1.heap.objs.size + 2 ∨ c = s1.heap.objs.size + 3 := by simpa using hcm
            have hle : s1.heap.objs.size ≤ c := by
              rcases e' with r | r | r | r | r | r | r <;> (rw [r]; omega)
            exact I1.fpOk hle (I1.hok.fresh hle)
          obtain ⟨its1, rv1, p1⟩ := sq_in I1 hq1
          have lt1 : @LT.lt Nat _ a1 s1.heap.objs.size := p1.lt
          obtain ⟨its2, rv2, p2⟩ := sq_in I1 hq2
          have lt2 : @LT.lt Nat _ a2 s1.heap.objs.size := p2.lt
          obtain ⟨its3, rv3, p3⟩ := sq_in I1 hq3
          have lt3 : @LT.lt Nat _ a3 s1.heap.objs.size := p3.lt
          obtain ⟨its4, rv4, p4⟩ := sq_in I1 hq4
          have lt4 : @LT.lt Nat _ a4 s1.heap.objs.size := p4.lt
          have D : ZA4 (s1.heap.objs.size + 6) (s1.heap.objs.size + 4) (s1.heap.objs.size + 5) (s1.heap.objs.size) (s1.heap.objs.size + 1) (s1.heap.objs.size + 2) (s1.heap.objs.size + 3) a1 a2 a3 a4 := by
            constructor <;> omega
          refine call_z4 p1 p2 p3 p4 fun h' hz hTI hTO hI1 hI2 hI3 hI4 hk => wpAny_pyIter_zip hz ?_
          have I2 : Inv X pins σ H1 { s1 with heap := h' } := I1.kept (t' := s1.toks) hk
          exact ⟨s1.heap.objs.size + 6, [s1.heap.objs.size + 6, s1.heap.objs.size + 4, s1.heap.objs.size + 5, s1.heap.objs.size, s1.heap.objs.size + 1, s1.heap.objs.size + 2, s1.heap.objs.size + 3], _, _, H1, rfl, I2, turn_z4 D, ⟨hz, hTI, ⟨_, _, _, _, hTO⟩, hI1, hI2, hI3, hI4⟩, fresh, q⟩
end MZ
namespace ML
open PySem PySem.Spec PyProof.Rows L2
def zp4D (xs1 xs2 xs3 xs4 : List D) : List D := (xs1.zip (xs2.zip (xs3.zip xs4))).map fun (x1, x2, x3, x4) => .tup [x1, x2, x3, x4]
theorem zp4D_len (xs1 xs2 xs3 xs4 : List D) : (zp4D xs1 xs2 xs3 xs4).length = min xs1.length (min xs2.length (min xs3.length (xs4.length))) := by
  unfold zp4D
  simp
theorem zp4D_get {xs1 xs2 xs3 xs4 : List D} {i : Nat} {x1 x2 x3 x4 : D} (h1 : xs1[i]? = some x1) (h2 : xs2[i]? = some x2) (h3 : xs3[i]? = some x3) (h4 : xs4[i]? = some x4) : (zp4D xs1 xs2 xs3 xs4)[i]? = some (.tup [x1, x2, x3, x4]) := by
  unfold zp4D
  rw [List.getElem?_map, (List.getElem?_zip_eq_some (z := (x1, (x2, (x3, x4)))) |>.mpr ⟨h1, List.getElem?_zip_eq_some (z := (x2, (x3, x4))) |>.mpr ⟨h2, List.getElem?_zip_eq_some (z := (x3, x4)) |>.mpr ⟨h3, h4⟩⟩⟩)]
  rfl
def iZp4 (f : ADen) : IDen := fun env S => (f env S).bind fun p => match p.1 with
  | [d1, d2, d3, d4] => (sqD p.2 d1).bind fun s1 => (sqD p.2 d2).bind fun s2 => (sqD p.2 d3).bind fun s3 => (sqD p.2 d4).bind fun s4 => some (⟨zp4D s1.1 s2.1 s3.1 s4.1, s1.2 ++ s2.2 ++ s3.2 ++ s4.2⟩, p.2)
  | _ => none
theorem mi_zp4 {X : Cx} {fu : ADen} {p pos tpos : Pos} {elts : List Expr} {kk : Nat} {e1 e2 e3 e4 : Expr} (hg : Gl X "zip") (hm : X.mg "zip" = none) (ha : MA X [e1, e2, e3, e4] fu) (hs : starEach [e1, e2, e3, e4] X.env = (false, eval e1 X.env) :: starEach [e2, e3, e4] X.env := by rfl)
    (hpl : (backTo pos (starEach [e2, e3, e4] X.env)).any (·.1) = false := by rfl) : MI X (.Tuple elts kk tpos) (.Call (.Name "zip" p) [e1, e2, e3, e4] [] pos) (iZp4 fu) := by
  refine ⟨PI.weak (MZ.pi_z4 hg hm ha.pa hs hpl) fun σ H Q h => ?_⟩
  obtain ⟨ρ, env, S, it, S', he, hv, hf, q⟩ := h
  obtain ⟨x, S1, h1, hf⟩ := bind2 hf
  refine tA.bind he hv h1 fun ρ1 vs H1 st1 he1 sr1 r1 => ?_
  simp only at hf
  split at hf
  · rename_i d1 d2 d3 d4
    obtain ⟨s1, b1, hf⟩ := Option.bind_eq_some_iff.mp hf
    obtain ⟨s2, b2, hf⟩ := Option.bind_eq_some_iff.mp hf
    obtain ⟨s3, b3, hf⟩ := Option.bind_eq_some_iff.mp hf
    obtain ⟨s4, b4, hf⟩ := Option.bind_eq_some_iff.mp hf
    cases hf
    simp only [RpL] at r1
    obtain ⟨v1, m1, rfl, rv1, v2, m2, rfl, rv2, v3, m3, rfl, rv3, v4, m4, rfl, rv4, rfl⟩ := r1
    obtain ⟨t1, a1, rfl, k1⟩ := sqD_ok sr1 rv1 b1
    obtain ⟨t2, a2, rfl, k2⟩ := sqD_ok sr1 rv2 b2
    obtain ⟨t3, a3, rfl, k3⟩ := sqD_ok sr1 rv3 b3
    obtain ⟨t4, a4, rfl, k4⟩ := sqD_ok sr1 rv4 b4
    obtain ⟨w1, y1, _⟩ := k1 ρ1 H1 _ (Step.refl _ _) sr1 (sqD_src b1)
    obtain ⟨w2, y2, _⟩ := k2 ρ1 H1 _ (Step.refl _ _) sr1 (sqD_src b2)
    obtain ⟨w3, y3, _⟩ := k3 ρ1 H1 _ (Step.refl _ _) sr1 (sqD_src b3)
    obtain ⟨w4, y4, _⟩ := k4 ρ1 H1 _ (Step.refl _ _) sr1 (sqD_src b4)
    refine ⟨t1, t2, t3, t4, a1, a2, a3, a4, w1, w2, w3, w4, rfl, y1, y2, y3, y4, q ρ1 H1 _ st1 sr1 ⟨fun i ρ2 H2 S2 hi st sr so => ?_, fun ρ2 H2 S2 st sr so => ?_, fun i ρ2 H2 S2 x H3 hi st sr so y => ?_⟩⟩
    · obtain ⟨z1, q1, r1⟩ := k1 ρ2 H2 S2 st sr (fun z hz => so z (by simp [hz]))
      obtain ⟨z2, q2, r2⟩ := k2 ρ2 H2 S2 st sr (fun z hz => so z (by simp [hz]))
      obtain ⟨z3, q3, r3⟩ := k3 ρ2 H2 S2 st sr (fun z hz => so z (by simp [hz]))
      obtain ⟨z4, q4, r4⟩ := k4 ρ2 H2 S2 st sr (fun z hz => so z (by simp [hz]))
      rw [zp4D_len] at hi
      exact ⟨z1, z2, z3, z4, _, _, _, _, q1, q2, q3, q4, List.getElem?_eq_getElem (by rw [r1.length]; omega), List.getElem?_eq_getElem (by rw [r2.length]; omega), List.getElem?_eq_getElem (by rw [r3.length]; omega), List.getElem?_eq_getElem (by rw [r4.length]; omega)⟩
    · obtain ⟨z1, q1, r1⟩ := k1 ρ2 H2 S2 st sr (fun z hz => so z (by simp [hz]))
      obtain ⟨z2, q2, r2⟩ := k2 ρ2 H2 S2 st sr (fun z hz => so z (by simp [hz]))
      obtain ⟨z3, q3, r3⟩ := k3 ρ2 H2 S2 st sr (fun z hz => so z (by simp [hz]))
      obtain ⟨z4, q4, r4⟩ := k4 ρ2 H2 S2 st sr (fun z hz => so z (by simp [hz]))
      refine ⟨z1, z2, z3, z4, q1, q2, q3, q4, ?_⟩
      simp only [zp4D_len, r1.length, r2.length, r3.length, r4.length]
      omega
    · obtain ⟨z1, q1, r1⟩ := k1 ρ2 H2 S2 st sr (fun z hz => so z (by simp [hz]))
      obtain ⟨z2, q2, r2⟩ := k2 ρ2 H2 S2 st sr (fun z hz => so z (by simp [hz]))
      obtain ⟨z3, q3, r3⟩ := k3 ρ2 H2 S2 st sr (fun z hz => so z (by simp [hz]))
      obtain ⟨z4, q4, r4⟩ := k4 ρ2 H2 S2 st sr (fun z hz => so z (by simp [hz]))
      obtain ⟨T, x1, x2, x3, x4, rfl, hT, rfl, f1, f2, f3, f4⟩ := y
      simp only [zp4D_len] at hi
      have g1 : s1.1[i]? = some s1.1[i] := List.getElem?_eq_getElem (by omega)
      obtain ⟨o1, oa1, ob1⟩ := r1.get g1
      rw [f1 _ q1] at oa1; cases oa1
      have g2 : s2.1[i]? = some s2.1[i] := List.getElem?_eq_getElem (by omega)
      obtain ⟨o2, oa2, ob2⟩ := r2.get g2
      rw [f2 _ q2] at oa2; cases oa2
      have g3 : s3.1[i]? = some s3.1[i] := List.getElem?_eq_getElem (by omega)
      obtain ⟨o3, oa3, ob3⟩ := r3.get g3
      rw [f3 _ q3] at oa3; cases oa3
      have g4 : s4.1[i]? = some s4.1[i] := List.getElem?_eq_getElem (by omega)
      obtain ⟨o4, oa4, ob4⟩ := r4.get g4
      rw [f4 _ q4] at oa4; cases oa4
      exact ⟨Step.untracked hT, sr.untracked hT, _, zp4D_get g1 g2 g3 g4, rp_tup hT (RpL.cons ob1 (RpL.cons ob2 (RpL.cons ob3 (RpL.one ob4))))⟩
  · cases hf
end ML

namespace ML
open PySem PySem.Spec PyProof.Rows L2
/-! ### ranges as such: reversed(range(..)), list(range(..)) -/
abbrev RDen := En → Sto → Option ((Int × Int) × Sto)
section
variable {X : Cx} {tg e a b c : Expr} {fe fa fb : Den} {r : RDen} {p pos : Pos} {G : Gx} {ρ : List Lo} {H : Hp}
instance (a b : Int) : Decidable (RgOk a b) := by unfold RgOk; infer_instance
/-- t1 = t2 = e -/
def sAsg2 (f : Den) (g1 g2 : GDen) : SDen := fun env S => (f env S).bind fun p => (g1 p.1 env p.2).bind fun q => (g2 p.1 q.1 q.2).bind fun r => some (.nx, r.1, r.2)
end
end ML

namespace MZ
open PySem PySem.Spec PyProof.Rows L2 RZ
open PySem.Sem (wp)
/-! ### enumerate of a list or a tuple -/
set_option maxHeartbeats 4000000 in
section
variable {prog : Program} {w : World} {A : Around} {E : Value → Shared → Prop} {s : Shared}
end
end MZ
namespace ML
open PySem PySem.Spec PyProof.Rows L2
end ML

namespace Cl
open PySem PySem.Spec PyProof.Rows L2 ML
def top (i : Nat) : Stmt := PySem.Challenge.pw_scenetongue_k57_boxes_along_rays.main.body.getD i (.Pass ⟨0, 0, 0, 0⟩)
abbrev s_common_part : Stmt := top 1
theorem sc_common_part : FnScope ["one", "other"] ["one", "other"] (defScope s_common_part) := ⟨rfl, rfl, rfl, by decide +kernel, rfl, by decide +kernel, by decide +kernel⟩
noncomputable abbrev d_common_part : Fn := p_common_part
abbrev s_frac : Stmt := top 2
theorem sc_frac : FnScope ["above", "below", "part"] ["above", "below"] (defScope s_frac) := ⟨rfl, rfl, rfl, by decide +kernel, rfl, by decide +kernel, by decide +kernel⟩
noncomputable abbrev d_frac : Fn := p_frac
abbrev s_minus : Stmt := top 3
theorem sc_minus : FnScope ["one", "other"] ["one", "other"] (defScope s_minus) := ⟨rfl, rfl, rfl, by decide +kernel, rfl, by decide +kernel, by decide +kernel⟩
noncomputable abbrev d_minus : Fn := p_minus
abbrev s_over : Stmt := top 4
theorem sc_over : FnScope ["one", "other"] ["one", "other"] (defScope s_over) := ⟨rfl, rfl, rfl, by decide +kernel, rfl, by decide +kernel, by decide +kernel⟩
noncomputable abbrev d_over : Fn := p_over
abbrev s_sign : Stmt := top 5
theorem sc_sign : FnScope ["one"] ["one"] (defScope s_sign) := ⟨rfl, rfl, rfl, by decide +kernel, rfl, by decide +kernel, by decide +kernel⟩
noncomputable abbrev d_sign : Fn := p_sign
abbrev s_less : Stmt := top 8
theorem sc_less : FnScope ["one", "other"] ["one", "other"] (defScope s_less) := ⟨rfl, rfl, rfl, by decide +kernel, rfl, by decide +kernel, by decide +kernel⟩
noncomputable abbrev d_less : Fn := p_is_less
abbrev s_within_sides : Stmt := top 9
theorem sc_within_sides : FnScope ["low", "high", "place", "way", "one", "other"] ["low", "high", "place", "way"] (defScope s_within_sides) := ⟨rfl, rfl, rfl, by decide +kernel, rfl, by decide +kernel, by decide +kernel⟩
noncomputable def d_within_sides : Fn := mkFn 4 6 (sCons (sIf (asB (eOp cEq (eCall p_sign (aCons (eVar 3) aNil)) (eC (.int 0)))) (sCons (sIf (ML.tOr (tTru (eCall p_is_less (aCons (eVar 2) (aCons (eVar 0) aNil)))) (tTru (eCall p_is_less (aCons (eVar 1) (aCons (eVar 2) aNil))))) (sCons (sRet (eC .non)) sNil) sNil) (sCons (sRet (eTup (aCons (eC .non) (aCons (eC .non) aNil)))) sNil)) sNil) (sCons (sAsg (eCall p_over (aCons (eCall p_minus (aCons (eVar 0) (aCons (eVar 2) aNil))) (aCons (eVar 3) aNil))) (ML.gName 4)) (sCons (sAsg (eCall p_over (aCons (eCall p_minus (aCons (eVar 1) (aCons (eVar 2) aNil))) (aCons (eVar 3) aNil))) (ML.gName 5)) (sCons (sRet (eIf (tTru (eCall p_is_less (aCons (eVar 5) (aCons (eVar 4) aNil)))) (eTup (aCons (eVar 5) (aCons (eVar 4) aNil))) (eTup (aCons (eVar 4) (aCons (eVar 5) aNil))))) sNil))))
abbrev s_box_stretch : Stmt := top 10
theorem sc_box_stretch : FnScope ["box", "ray", "begin", "end", "low", "high", "place", "way", "found"] ["box", "ray"] (defScope s_box_stretch) := ⟨rfl, rfl, rfl, by decide +kernel, rfl, by decide +kernel, by decide +kernel⟩
noncomputable def d_box_stretch : Fn := mkFn 2 9 (sCons (sIf (asB (eOp cEq (eVar 0) (eTup aNil))) (sCons (sRet (eC .non)) sNil) sNil) (sCons (sAsg (eC (.tup [.int 0, .int 1])) (ML.gName 2)) (sCons (sAsg (eC .non) (ML.gName 3)) (sCons (sFor (iZp4 (aCons (eOp gIx (eVar 0) (eC (.int 0))) (aCons (eOp gIx (eVar 0) (eC (.int 1))) (aCons (eOp gIx (eVar 1) (eC (.int 0))) (aCons (eOp gIx (eVar 1) (eC (.int 1))) aNil))))) (ML.gTup 4 (ML.gCons (ML.gName 4) (ML.gCons (ML.gName 5) (ML.gCons (ML.gName 6) (ML.gCons (ML.gName 7) ML.gNil))))) (sCons (sAsg (eCall d_within_sides (aCons (eVar 4) (aCons (eVar 5) (aCons (eVar 6) (aCons (eVar 7) aNil))))) (ML.gName 8)) (sCons (sIf (asB (eOp cIs (eVar 8) (eC .non))) (sCons (sRet (eC .non)) sNil) sNil) (sCons (sIf (asB (eOp cIsNot (eOp gIx (eVar 8) (eC (.int 0))) (eC .non))) (sCons (sAsg (eIf (tTru (eCall p_is_less (aCons (eVar 2) (aCons (eOp gIx (eVar 8) (eC (.int 0))) aNil)))) (eOp gIx (eVar 8) (eC (.int 0))) (eVar 2)) (ML.gName 2)) (sCons (sAsg (eIf (ML.tOr (asB (eOp cIs (eVar 3) (eC .non))) (tTru (eCall p_is_less (aCons (eOp gIx (eVar 8) (eC (.int 1))) (aCons (eVar 3) aNil))))) (eOp gIx (eVar 8) (eC (.int 1))) (eVar 3)) (ML.gName 3)) sNil)) sNil) sNil)))) (sCons (sIf (ML.tAnd (asB (eOp cIsNot (eVar 3) (eC .non))) (tTru (eCall p_is_less (aCons (eVar 3) (aCons (eVar 2) aNil))))) (sCons (sRet (eC .non)) sNil) sNil) (sCons (sRet (eTup (aCons (eVar 2) (aCons (eVar 3) aNil)))) sNil))))))
abbrev s__law_deck : Stmt := top 12
theorem sc__law_deck : FnScope ["_law_script", "_law_ones", "_law_one"] ["_law_script"] (defScope s__law_deck) := ⟨rfl, rfl, rfl, by decide +kernel, rfl, by decide +kernel, by decide +kernel⟩
noncomputable def d__law_deck : Fn := mkFn 1 3 (sCons (sAsg (eOp gAdd (eOwn (uLc (iSeq (eVar 0)) (ML.gName 2) ML.tYes (eCall bAbs (aCons (eVar 2) aNil)) [2])) (eOp gMul (eOwn (uLst (aCons (eC (.int 3)) aNil))) (eCall bInt (aCons (eOp cEq (eCall bLen (aCons (eVar 0) aNil)) (eC (.int 0))) aNil)))) (ML.gName 1)) (sCons (sRet (eOwn (uLst (aCons (eVar 1) (aCons (eOwn (uLc (iSeq (eVar 1)) (ML.gName 2) (asB (eOp cGe (eVar 2) (eOp gPow (eC (.int 10)) (eC (.int 18))))) (eVar 2) [2])) (aCons (eC (.int 0)) (aCons (eC (.int 0)) aNil))))))) sNil))
abbrev s__law_take : Stmt := top 13
theorem sc__law_take : FnScope ["_law_deck_here", "_law_many", "_law_one"] ["_law_deck_here", "_law_many"] (defScope s__law_take) := ⟨rfl, rfl, rfl, by decide +kernel, rfl, by decide +kernel, by decide +kernel⟩
noncomputable def d__law_take : Fn := mkFn 2 3 (sCons (sWhile (asB (eOp cLt (eOp gIx (eVar 0) (eC (.int 2))) (eCall bLen (aCons (eOp gIx (eVar 0) (eC (.int 1))) aNil)))) (sCons (sAsg (eOp gIx (eOp gIx (eVar 0) (eC (.int 1))) (eOp gIx (eVar 0) (eC (.int 2)))) (ML.gName 2)) (sCons (sIf (asB (eOp cGt (eVar 2) (eC (.int 0)))) (sCons (sAsg (eOp gFdiv (eVar 2) (eVar 1)) (gPut (eOp gIx (eVar 0) (eC (.int 1))) (eOp gIx (eVar 0) (eC (.int 2))))) (sCons (sRet (eOp gMod (eVar 2) (eVar 1))) sNil)) sNil) (sCons (sAsg (eOp gAdd (eOp gIx (eVar 0) (eC (.int 2))) (eC (.int 1))) (gPut (eVar 0) (eC (.int 2)))) sNil)))) (sCons (sAsg (eOp gAdd (eOp gIx (eVar 0) (eC (.int 3))) (eC (.int 1))) (gPut (eVar 0) (eC (.int 3)))) (sCons (sAsg (eOp gAdd (eOp gMod (eOp gIx (eOp gIx (eVar 0) (eC (.int 0))) (eOp gMod (eOp gIx (eVar 0) (eC (.int 3))) (eCall bLen (aCons (eOp gIx (eVar 0) (eC (.int 0))) aNil)))) (eC (.int 1000003))) (eC (.int 5))) (ML.gName 2)) (sCons (sRet (eOp gMod (eOp gFdiv (eOp gMod (eOp gPow (eOp gAdd (eOp gMul (eVar 2) (eOp gAdd (eOp gIx (eVar 0) (eC (.int 3))) (eC (.int 2)))) (eOp gMul (eC (.int 7919)) (eOp gIx (eVar 0) (eC (.int 3))))) (eC (.int 5))) (eC (.int 2147483647))) (eC (.int 13))) (eVar 1))) sNil))))
abbrev s__law_gcd : Stmt := top 14
theorem sc__law_gcd : FnScope ["_law_one", "_law_other", "_law_rest"] ["_law_one", "_law_other"] (defScope s__law_gcd) := ⟨rfl, rfl, rfl, by decide +kernel, rfl, by decide +kernel, by decide +kernel⟩
noncomputable def d__law_gcd : Fn := mkFn 2 3 (sCons (sWhile (asB (eOp cNe (eVar 1) (eC (.int 0)))) (sCons (sAsg (eOp gMod (eVar 0) (eVar 1)) (ML.gName 2)) (sCons (sAsg (eVar 1) (ML.gName 0)) (sCons (sAsg (eVar 2) (ML.gName 1)) sNil)))) (sCons (sRet (eCall bAbs (aCons (eVar 0) aNil))) sNil))
abbrev s__law_part : Stmt := top 15
theorem sc__law_part : FnScope ["_law_top", "_law_bottom", "_law_size"] ["_law_top", "_law_bottom"] (defScope s__law_part) := ⟨rfl, rfl, rfl, by decide +kernel, rfl, by decide +kernel, by decide +kernel⟩
noncomputable def d__law_part : Fn := mkFn 2 3 (sCons (sAsg (eCall d__law_gcd (aCons (eVar 0) (aCons (eVar 1) aNil))) (ML.gName 2)) (sCons (sIf (asB (eOp cLt (eVar 1) (eC (.int 0)))) (sCons (sAsg (eUn gNeg (eVar 2)) (ML.gName 2)) sNil) sNil) (sCons (sRet (eTup (aCons (eOp gFdiv (eVar 0) (eVar 2)) (aCons (eOp gFdiv (eVar 1) (eVar 2)) aNil)))) sNil)))
abbrev s__law_number : Stmt := top 16
theorem sc__law_number : FnScope ["_law_deck_here", "_law_far", "_law_bottom"] ["_law_deck_here", "_law_far"] (defScope s__law_number) := ⟨rfl, rfl, rfl, by decide +kernel, rfl, by decide +kernel, by decide +kernel⟩
noncomputable def d__law_number : Fn := mkFn 2 3 (sCons (sAsg (eUIx (uLst (aCons (eC (.int 1)) (aCons (eC (.int 1)) (aCons (eC (.int 1)) (aCons (eC (.int 1)) (aCons (eC (.int 2)) (aCons (eC (.int 3)) aNil))))))) (eCall d__law_take (aCons (eVar 0) (aCons (eC (.int 6)) aNil)))) (ML.gName 2)) (sCons (sRet (eCall d__law_part (aCons (eOp gSub (eCall d__law_take (aCons (eVar 0) (aCons (eOp gAdd (eOp gMul (eOp gMul (eC (.int 2)) (eVar 1)) (eVar 2)) (eC (.int 1))) aNil))) (eOp gMul (eVar 1) (eVar 2))) (aCons (eVar 2) aNil)))) sNil))
abbrev s__law_point : Stmt := top 17
theorem sc__law_point : FnScope ["_law_deck_here", "_law_far"] ["_law_deck_here", "_law_far"] (defScope s__law_point) := ⟨rfl, rfl, rfl, by decide +kernel, rfl, by decide +kernel, by decide +kernel⟩
noncomputable def d__law_point : Fn := mkFn 2 2 (sCons (sRet (eTup (aCons (eCall d__law_number (aCons (eVar 0) (aCons (eVar 1) aNil))) (aCons (eCall d__law_number (aCons (eVar 0) (aCons (eVar 1) aNil))) (aCons (eCall d__law_number (aCons (eVar 0) (aCons (eVar 1) aNil))) aNil))))) sNil)
abbrev s__law_plus : Stmt := top 18
theorem sc__law_plus : FnScope ["_law_one", "_law_other"] ["_law_one", "_law_other"] (defScope s__law_plus) := ⟨rfl, rfl, rfl, by decide +kernel, rfl, by decide +kernel, by decide +kernel⟩
noncomputable def d__law_plus : Fn := mkFn 2 2 (sCons (sRet (eCall d__law_part (aCons (eOp gAdd (eOp gMul (eOp gIx (eVar 0) (eC (.int 0))) (eOp gIx (eVar 1) (eC (.int 1)))) (eOp gMul (eOp gIx (eVar 1) (eC (.int 0))) (eOp gIx (eVar 0) (eC (.int 1))))) (aCons (eOp gMul (eOp gIx (eVar 0) (eC (.int 1))) (eOp gIx (eVar 1) (eC (.int 1)))) aNil)))) sNil)
abbrev s__law_times : Stmt := top 19
theorem sc__law_times : FnScope ["_law_one", "_law_other"] ["_law_one", "_law_other"] (defScope s__law_times) := ⟨rfl, rfl, rfl, by decide +kernel, rfl, by decide +kernel, by decide +kernel⟩
noncomputable def d__law_times : Fn := mkFn 2 2 (sCons (sRet (eCall d__law_part (aCons (eOp gMul (eOp gIx (eVar 0) (eC (.int 0))) (eOp gIx (eVar 1) (eC (.int 0)))) (aCons (eOp gMul (eOp gIx (eVar 0) (eC (.int 1))) (eOp gIx (eVar 1) (eC (.int 1)))) aNil)))) sNil)
abbrev s__law_less : Stmt := top 20
theorem sc__law_less : FnScope ["_law_one", "_law_other"] ["_law_one", "_law_other"] (defScope s__law_less) := ⟨rfl, rfl, rfl, by decide +kernel, rfl, by decide +kernel, by decide +kernel⟩
noncomputable def d__law_less : Fn := mkFn 2 2 (sCons (sRet (eCall d__law_part (aCons (eOp gSub (eOp gMul (eOp gIx (eVar 0) (eC (.int 0))) (eOp gIx (eVar 1) (eC (.int 1)))) (eOp gMul (eOp gIx (eVar 1) (eC (.int 0))) (eOp gIx (eVar 0) (eC (.int 1))))) (aCons (eOp gMul (eOp gIx (eVar 0) (eC (.int 1))) (eOp gIx (eVar 1) (eC (.int 1)))) aNil)))) sNil)
abbrev s__law_way : Stmt := top 21
theorem sc__law_way : FnScope ["_law_deck_here", "_law_way_here", "_law_k"] ["_law_deck_here"] (defScope s__law_way) := ⟨rfl, rfl, rfl, by decide +kernel, rfl, by decide +kernel, by decide +kernel⟩
noncomputable def d__law_way : Fn := mkFn 1 3 (sCons (sAsgU (uLc (iRange1 (eC (.int 3))) (ML.gName 2) ML.tYes (eTup (aCons (eOp gSub (eCall d__law_take (aCons (eVar 0) (aCons (eC (.int 7)) aNil))) (eC (.int 3))) (aCons (eC (.int 1)) aNil))) [2]) 1) (sCons (sIf (asB (eOp cEq (eVar 1) (eOp gMul (eOwn (uLst (aCons (eTup (aCons (eC (.int 0)) (aCons (eC (.int 1)) aNil))) aNil))) (eC (.int 3))))) (sCons (sAsg (eTup (aCons (eC (.int 1)) (aCons (eC (.int 1)) aNil))) (gPut (eVar 1) (eCall d__law_take (aCons (eVar 0) (aCons (eC (.int 3)) aNil))))) sNil) sNil) (sCons (sRet (eCall bTuple (aCons (eVar 1) aNil))) sNil)))
abbrev s__law_put : Stmt := top 22
theorem sc__law_put : FnScope ["_law_row", "_law_at", "_law_thing"] ["_law_row", "_law_at", "_law_thing"] (defScope s__law_put) := ⟨rfl, rfl, rfl, by decide +kernel, rfl, by decide +kernel, by decide +kernel⟩
noncomputable def d__law_put : Fn := mkFn 3 3 (sCons (sRet (eOp gAdd (eOp gAdd (eSl (eVar 0) oNone (oSome (eVar 1))) (eTup (aCons (eVar 2) aNil))) (eSl (eVar 0) (oSome (eOp gAdd (eVar 1) (eC (.int 1)))) oNone))) sNil)
abbrev s__law_through : Stmt := top 23
theorem sc__law_through : FnScope ["_law_one", "_law_other"] ["_law_one", "_law_other"] (defScope s__law_through) := ⟨rfl, rfl, rfl, by decide +kernel, rfl, by decide +kernel, by decide +kernel⟩
noncomputable def d__law_through : Fn := mkFn 2 2 (sCons (sRet (eCall d__law_part (aCons (eOp gMul (eOp gIx (eVar 0) (eC (.int 0))) (eOp gIx (eVar 1) (eC (.int 1)))) (aCons (eOp gMul (eOp gIx (eVar 0) (eC (.int 1))) (eOp gIx (eVar 1) (eC (.int 0)))) aNil)))) sNil)
abbrev s__law_span : Stmt := top 24
theorem sc__law_span : FnScope ["_law_box", "_law_ray_here", "_law_begin", "_law_end", "_law_k", "_law_low", "_law_high", "_law_way_here", "_law_ends"] ["_law_box", "_law_ray_here"] (defScope s__law_span) := ⟨rfl, rfl, rfl, by decide +kernel, rfl, by decide +kernel, by decide +kernel⟩
noncomputable def d__law_span : Fn := mkFn 2 9 (sCons (sAsg (eTup (aCons (eC (.int 0)) (aCons (eC (.int 1)) aNil))) (ML.gName 2)) (sCons (sAsg (eC .non) (ML.gName 3)) (sCons (sFor (iRange1 (eC (.int 3))) (ML.gName 4) (sCons (sAsg (eCall d__law_less (aCons (eOp gIx (eOp gIx (eVar 0) (eC (.int 0))) (eVar 4)) (aCons (eOp gIx (eOp gIx (eVar 1) (eC (.int 0))) (eVar 4)) aNil))) (ML.gName 5)) (sCons (sAsg (eCall d__law_less (aCons (eOp gIx (eOp gIx (eVar 0) (eC (.int 1))) (eVar 4)) (aCons (eOp gIx (eOp gIx (eVar 1) (eC (.int 0))) (eVar 4)) aNil))) (ML.gName 6)) (sCons (sAsg (eOp gIx (eOp gIx (eVar 1) (eC (.int 1))) (eVar 4)) (ML.gName 7)) (sCons (sIf (asB (eOp cEq (eOp gIx (eVar 7) (eC (.int 0))) (eC (.int 0)))) (sCons (sIf (ML.tOr (asB (eOp cGt (eOp gIx (eVar 5) (eC (.int 0))) (eC (.int 0)))) (asB (eOp cLt (eOp gIx (eVar 6) (eC (.int 0))) (eC (.int 0))))) (sCons (sRet (eC .non)) sNil) sNil) sNil) (sCons (sAsg (eOwn (uLst (aCons (eCall d__law_through (aCons (eVar 5) (aCons (eVar 7) aNil))) (aCons (eCall d__law_through (aCons (eVar 6) (aCons (eVar 7) aNil))) aNil)))) (ML.gName 8)) (sCons (sIf (asB (eOp cLt (eOp gIx (eVar 7) (eC (.int 0))) (eC (.int 0)))) (sCons (sAsg (eOwn (uRev (eVar 8))) (ML.gName 8)) sNil) sNil) (sCons (sIf (asB (eOp cGt (eOp gIx (eCall d__law_less (aCons (eOp gIx (eVar 8) (eC (.int 0))) (aCons (eVar 2) aNil))) (eC (.int 0))) (eC (.int 0)))) (sCons (sAsg (eOp gIx (eVar 8) (eC (.int 0))) (ML.gName 2)) sNil) sNil) (sCons (sIf (ML.tOr (asB (eOp cIs (eVar 3) (eC .non))) (asB (eOp cLt (eOp gIx (eCall d__law_less (aCons (eOp gIx (eVar 8) (eC (.int 1))) (aCons (eVar 3) aNil))) (eC (.int 0))) (eC (.int 0))))) (sCons (sAsg (eOp gIx (eVar 8) (eC (.int 1))) (ML.gName 3)) sNil) sNil) sNil))))) sNil))))) (sCons (sIf (asB (eOp cLt (eOp gIx (eCall d__law_less (aCons (eVar 3) (aCons (eVar 2) aNil))) (eC (.int 0))) (eC (.int 0)))) (sCons (sRet (eC .non)) sNil) sNil) (sCons (sRet (eTup (aCons (eVar 2) (aCons (eVar 3) aNil)))) sNil)))))
abbrev s__law_ray : Stmt := top 25
theorem sc__law_ray : FnScope ["_law_deck_here"] ["_law_deck_here"] (defScope s__law_ray) := ⟨rfl, rfl, rfl, by decide +kernel, rfl, by decide +kernel, by decide +kernel⟩
noncomputable def d__law_ray : Fn := mkFn 1 1 (sCons (sRet (eTup (aCons (eCall d__law_point (aCons (eVar 0) (aCons (eC (.int 6)) aNil))) (aCons (eCall d__law_way (aCons (eVar 0) aNil)) aNil)))) sNil)
abbrev s__law_flat_box : Stmt := top 26
theorem sc__law_flat_box : FnScope ["_law_deck_here", "_law_low", "_law_high", "_law_part_here"] ["_law_deck_here"] (defScope s__law_flat_box) := ⟨rfl, rfl, rfl, by decide +kernel, rfl, by decide +kernel, by decide +kernel⟩
noncomputable def d__law_flat_box : Fn := mkFn 1 4 (sCons (sAsg (eCall d__law_point (aCons (eVar 0) (aCons (eC (.int 4)) aNil))) (ML.gName 1)) (sCons (sAsg (eU gTupU (uLc (iSeq (eVar 1)) (ML.gName 3) ML.tYes (eCall d__law_plus (aCons (eVar 3) (aCons (eCall d__law_part (aCons (eCall d__law_take (aCons (eVar 0) (aCons (eC (.int 6)) aNil))) (aCons (eOp gAdd (eC (.int 1)) (eCall d__law_take (aCons (eVar 0) (aCons (eC (.int 2)) aNil)))) aNil))) aNil))) [3])) (ML.gName 2)) (sCons (sRet (eTup (aCons (eVar 1) (aCons (eVar 2) aNil)))) sNil)))
abbrev s__law_spot_of : Stmt := top 27
theorem sc__law_spot_of : FnScope ["_law_deck_here", "_law_box", "_law_found", "_law_k", "_law_part_here"] ["_law_deck_here", "_law_box"] (defScope s__law_spot_of) := ⟨rfl, rfl, rfl, by decide +kernel, rfl, by decide +kernel, by decide +kernel⟩
noncomputable def d__law_spot_of : Fn := mkFn 2 5 (sCons (sAsg (eOwn (uLst aNil)) (ML.gName 2)) (sCons (sFor (iRange1 (eC (.int 3))) (ML.gName 3) (sCons (sAsg (eUIx (uLst (aCons (eTup (aCons (eC (.int 0)) (aCons (eC (.int 1)) aNil))) (aCons (eTup (aCons (eC (.int 1)) (aCons (eC (.int 1)) aNil))) (aCons (eTup (aCons (eC (.int 1)) (aCons (eC (.int 2)) aNil))) (aCons (eTup (aCons (eC (.int 1)) (aCons (eC (.int 3)) aNil))) aNil))))) (eCall d__law_take (aCons (eVar 0) (aCons (eC (.int 4)) aNil)))) (ML.gName 4)) (sCons (sExpr (eMt mAppend (eVar 2) (aCons (eCall d__law_plus (aCons (eOp gIx (eOp gIx (eVar 1) (eC (.int 0))) (eVar 3)) (aCons (eCall d__law_times (aCons (eVar 4) (aCons (eCall d__law_less (aCons (eOp gIx (eOp gIx (eVar 1) (eC (.int 1))) (eVar 3)) (aCons (eOp gIx (eOp gIx (eVar 1) (eC (.int 0))) (eVar 3)) aNil))) aNil))) aNil))) aNil))) sNil))) (sCons (sRet (eCall bTuple (aCons (eVar 2) aNil))) sNil)))
abbrev s__law_ray_by : Stmt := top 28
theorem sc__law_ray_by : FnScope ["_law_deck_here", "_law_box", "_law_kind", "_law_place", "_law_to", "_law_way_here", "_law_at", "_law_k", "_law_part_here"] ["_law_deck_here", "_law_box"] (defScope s__law_ray_by) := ⟨rfl, rfl, rfl, by decide +kernel, rfl, by decide +kernel, by decide +kernel⟩
noncomputable def d__law_ray_by : Fn := mkFn 2 9 (sCons (sAsg (eCall d__law_take (aCons (eVar 0) (aCons (eC (.int 5)) aNil))) (ML.gName 2)) (sCons (sAsg (eCall d__law_point (aCons (eVar 0) (aCons (eC (.int 7)) aNil))) (ML.gName 3)) (sCons (sIf (asB (eOp cEq (eVar 2) (eC (.int 0)))) (sCons (sRet (eTup (aCons (eVar 3) (aCons (eCall d__law_way (aCons (eVar 0) aNil)) aNil)))) sNil) sNil) (sCons (sIf (asB (eOp cEq (eVar 2) (eC (.int 1)))) (sCons (sRet (eTup (aCons (eCall d__law_spot_of (aCons (eVar 0) (aCons (eVar 1) aNil))) (aCons (eCall d__law_way (aCons (eVar 0) aNil)) aNil)))) sNil) sNil) (sCons (sAsg (eCall d__law_spot_of (aCons (eVar 0) (aCons (eVar 1) aNil))) (ML.gName 4)) (sCons (sAsgU (uLc (iRange1 (eC (.int 3))) (ML.gName 7) ML.tYes (eCall d__law_less (aCons (eOp gIx (eVar 4) (eVar 7)) (aCons (eOp gIx (eVar 3) (eVar 7)) aNil))) [7]) 5) (sCons (sIf (asB (eOp cEq (eVar 2) (eC (.int 2)))) (sCons (sAsg (eCall d__law_take (aCons (eVar 0) (aCons (eC (.int 3)) aNil))) (ML.gName 6)) (sCons (sAsg (eTup (aCons (eC (.int 0)) (aCons (eC (.int 1)) aNil))) (gPut (eVar 5) (eVar 6))) (sCons (sAsg (eCall d__law_put (aCons (eVar 3) (aCons (eVar 6) (aCons (eOp gIx (eVar 4) (eVar 6)) aNil)))) (ML.gName 3)) sNil))) sNil) (sCons (sIf (asB (eOp cEq (eVar 2) (eC (.int 3)))) (sCons (sAsgU (uLc (iSeq (eVar 5)) (ML.gName 8) ML.tYes (eTup (aCons (eUn gNeg (eOp gIx (eVar 8) (eC (.int 0)))) (aCons (eOp gIx (eVar 8) (eC (.int 1))) aNil))) [8]) 5) sNil) sNil) (sCons (sIf (asB (eOp cEq (eVar 5) (eOp gMul (eOwn (uLst (aCons (eTup (aCons (eC (.int 0)) (aCons (eC (.int 1)) aNil))) aNil))) (eC (.int 3))))) (sCons (sAsg (eTup (aCons (eUn gNeg (eC (.int 1))) (aCons (eC (.int 2)) aNil))) (gPut (eVar 5) (eCall d__law_take (aCons (eVar 0) (aCons (eC (.int 3)) aNil))))) sNil) sNil) (sCons (sRet (eTup (aCons (eVar 3) (aCons (eCall bTuple (aCons (eVar 5) aNil)) aNil)))) sNil))))))))))
abbrev s_law : Stmt := top 29
theorem sc_law : FnScope ["_law_script", "_law_deck_here", "_law_turn", "_law_box", "_law_ray_here"] ["_law_script"] (defScope s_law) := ⟨rfl, rfl, rfl, by decide +kernel, rfl, by decide +kernel, by decide +kernel⟩
noncomputable def d_law : Fn := mkFn 1 5 (sCons (sAsg (eCall d__law_deck (aCons (eVar 0) aNil)) (ML.gName 1)) (sCons (sFor (iRange1 (eC (.int 5))) (ML.gName 2) (sCons (sAsg (eCall d__law_flat_box (aCons (eVar 1) aNil)) (ML.gName 3)) (sCons (sAsg (eCall d__law_ray_by (aCons (eVar 1) (aCons (eVar 3) aNil))) (ML.gName 4)) (sCons (sIf (asB (eOp cNe (eCall bRepr (aCons (eCall d_box_stretch (aCons (eVar 3) (aCons (eVar 4) aNil))) aNil)) (eCall bRepr (aCons (eCall d__law_span (aCons (eVar 3) (aCons (eVar 4) aNil))) aNil)))) (sCons (sRet (eC (.bl false))) sNil) sNil) sNil)))) (sCons (sRet (eOp cIs (eCall d_box_stretch (aCons (eTup aNil) (aCons (eCall d__law_ray (aCons (eVar 1) aNil)) aNil))) (eC .non))) sNil)))
def fn : List He.DefD := [⟨("common_part", none), "common_part", "common_part", defArgs s_common_part, defBody s_common_part, defScope s_common_part, [], []⟩,
  ⟨("frac", none), "frac", "frac", defArgs s_frac, defBody s_frac, defScope s_frac, [], []⟩,
  ⟨("minus", none), "minus", "minus", defArgs s_minus, defBody s_minus, defScope s_minus, [], []⟩,
  ⟨("over", none), "over", "over", defArgs s_over, defBody s_over, defScope s_over, [], []⟩,
  ⟨("sign", none), "sign", "sign", defArgs s_sign, defBody s_sign, defScope s_sign, [], []⟩,
  ⟨("less", none), "less", "less", defArgs s_less, defBody s_less, defScope s_less, [], []⟩,
  ⟨("within_sides", none), "within_sides", "within_sides", defArgs s_within_sides, defBody s_within_sides, defScope s_within_sides, [], []⟩,
  ⟨("box_stretch", none), "box_stretch", "box_stretch", defArgs s_box_stretch, defBody s_box_stretch, defScope s_box_stretch, [], []⟩,
  ⟨("_law_deck", none), "_law_deck", "_law_deck", defArgs s__law_deck, defBody s__law_deck, defScope s__law_deck, [], []⟩,
  ⟨("_law_take", none), "_law_take", "_law_take", defArgs s__law_take, defBody s__law_take, defScope s__law_take, [], []⟩,
  ⟨("_law_gcd", none), "_law_gcd", "_law_gcd", defArgs s__law_gcd, defBody s__law_gcd, defScope s__law_gcd, [], []⟩,
  ⟨("_law_part", none), "_law_part", "_law_part", defArgs s__law_part, defBody s__law_part, defScope s__law_part, [], []⟩,
  ⟨("_law_number", none), "_law_number", "_law_number", defArgs s__law_number, defBody s__law_number, defScope s__law_number, [], []⟩,
  ⟨("_law_point", none), "_law_point", "_law_point", defArgs s__law_point, defBody s__law_point, defScope s__law_point, [], []⟩,
  ⟨("_law_plus", none), "_law_plus", "_law_plus", defArgs s__law_plus, defBody s__law_plus, defScope s__law_plus, [], []⟩,
  ⟨("_law_times", none), "_law_times", "_law_times", defArgs s__law_times, defBody s__law_times, defScope s__law_times, [], []⟩,
  ⟨("_law_less", none), "_law_less", "_law_less", defArgs s__law_less, defBody s__law_less, defScope s__law_less, [], []⟩,
  ⟨("_law_way", none), "_law_way", "_law_way", defArgs s__law_way, defBody s__law_way, defScope s__law_way, [], []⟩,
  ⟨("_law_put", none), "_law_put", "_law_put", defArgs s__law_put, defBody s__law_put, defScope s__law_put, [], []⟩,
  ⟨("_law_through", none), "_law_through", "_law_through", defArgs s__law_through, defBody s__law_through, defScope s__law_through, [], []⟩,
  ⟨("_law_span", none), "_law_span", "_law_span", defArgs s__law_span, defBody s__law_span, defScope s__law_span, [], []⟩,
  ⟨("_law_ray", none), "_law_ray", "_law_ray", defArgs s__law_ray, defBody s__law_ray, defScope s__law_ray, [], []⟩,
  ⟨("_law_flat_box", none), "_law_flat_box", "_law_flat_box", defArgs s__law_flat_box, defBody s__law_flat_box, defScope s__law_flat_box, [], []⟩,
  ⟨("_law_spot_of", none), "_law_spot_of", "_law_spot_of", defArgs s__law_spot_of, defBody s__law_spot_of, defScope s__law_spot_of, [], []⟩,
  ⟨("_law_ray_by", none), "_law_ray_by", "_law_ray_by", defArgs s__law_ray_by, defBody s__law_ray_by, defScope s__law_ray_by, [], []⟩,
  ⟨("law", none), "law", "law", defArgs s_law, defBody s_law, defScope s_law, [], []⟩]
def fa : List He.Fa := [.glo "common_part", .glo "frac", .glo "minus", .glo "over", .glo "sign", .glo "less", .glo "within_sides", .glo "box_stretch", .glo "_law_deck", .glo "_law_take", .glo "_law_gcd", .glo "_law_part", .glo "_law_number", .glo "_law_point", .glo "_law_plus", .glo "_law_times", .glo "_law_less", .glo "_law_way", .glo "_law_put", .glo "_law_through", .glo "_law_span", .glo "_law_ray", .glo "_law_flat_box", .glo "_law_spot_of", .glo "_law_ray_by", .glo "law", .free "abs", .free "int", .free "zip", .free "len", .free "range", .free "tuple", .free "repr"]
def cs : List (Str × D) := [("NOUGHT", .tup [.int 0, .int 1])]
def ts : List TabD := []
section
variable {P : Program} {w : World} {K : PySem.W.Frag} {mg : Str → Option Value} {base h : Heap} (X : K.In h) (G : h.Ns mainGlobals mg) (c : SaysY fa fn cs ts w K)
include X G c
theorem m_abs : mg "abs" = none := He.free_ok X G (c.d.fact 26 (f := .free "abs") rfl)
theorem m_int : mg "int" = none := He.free_ok X G (c.d.fact 27 (f := .free "int") rfl)
theorem m_zip : mg "zip" = none := He.free_ok X G (c.d.fact 28 (f := .free "zip") rfl)
theorem m_len : mg "len" = none := He.free_ok X G (c.d.fact 29 (f := .free "len") rfl)
theorem m_range : mg "range" = none := He.free_ok X G (c.d.fact 30 (f := .free "range") rfl)
theorem m_tuple : mg "tuple" = none := He.free_ok X G (c.d.fact 31 (f := .free "tuple") rfl)
theorem m_repr : mg "repr" = none := He.free_ok X G (c.d.fact 32 (f := .free "repr") rfl)
theorem c_NOUGHT : HasC K mg "NOUGHT" (.tup [.int 0, .int 1]) := c.cst X G 0 rfl
theorem ok_common_part : HasFn P w K mg base "common_part" 1 d_common_part := by
  obtain ⟨fd_0, F_0⟩ := c.d.def_ 0 (d := ⟨("common_part", none), "common_part", "common_part", defArgs s_common_part, defBody s_common_part, defScope s_common_part, [], []⟩) rfl
  refine ⟨_, fd_0, ["one", "other"], He.glo_ok X G (c.d.fact 0 (f := .glo "common_part") rfl), F_0.kp, F_0.bindsN (fun _ _ _ _ _ _ us hl => match us, hl with | [_, _], _ => rfl), fn_ok F_0 sc_common_part fun cdv A outer s H E hr => ?_⟩
  have nd := sc_common_part.nd
  exact (mss_cons (ms_par 0 1 rfl nd (ma_cons (mb_abs (m_abs X G c) (ma_cons (me_var 0) ma_nil)) (ma_cons (mb_abs (m_abs X G c) (ma_cons (me_var 1) ma_nil)) ma_nil))) (mss_cons (ms_while PassesOwn.never (mt_val (me_var 1)) (mss_cons (ms_par 0 1 rfl nd (ma_cons (me_var 1) (ma_cons (me_mod (me_var 0) (me_var 1)) ma_nil))) mss_nil)) (mss_cons (ms_ret (me_var 0)) mss_nil)))
theorem ok_frac : HasFn P w K mg base "frac" 2 d_frac := by
  obtain ⟨fd_1, F_1⟩ := c.d.def_ 1 (d := ⟨("frac", none), "frac", "frac", defArgs s_frac, defBody s_frac, defScope s_frac, [], []⟩) rfl
  refine ⟨_, fd_1, ["above", "below"], He.glo_ok X G (c.d.fact 1 (f := .glo "frac") rfl), F_1.kp, F_1.bindsN (fun _ _ _ _ _ _ us hl => match us, hl with | [_, _], _ => rfl), fn_ok F_1 sc_frac fun cdv A outer s H E hr => ?_⟩
  have nd := sc_frac.nd
  exact (mss_cons (ms_set 2 nd (me_callF (ok_common_part X G c) hr (ma_cons (me_var 0) (ma_cons (me_var 1) ma_nil)))) (mss_cons (ms_if (mt_lt (me_var 1) me_int) (mss_cons (ms_set 2 nd (me_neg (me_var 2))) mss_nil) mss_nil) (mss_cons (ms_ret (me_tup (ma_cons (me_fdiv (me_var 0) (me_var 2)) (ma_cons (me_fdiv (me_var 1) (me_var 2)) ma_nil)))) mss_nil)))
theorem ok_minus : HasFn P w K mg base "minus" 3 d_minus := by
  obtain ⟨fd_2, F_2⟩ := c.d.def_ 2 (d := ⟨("minus", none), "minus", "minus", defArgs s_minus, defBody s_minus, defScope s_minus, [], []⟩) rfl
  refine ⟨_, fd_2, ["one", "other"], He.glo_ok X G (c.d.fact 2 (f := .glo "minus") rfl), F_2.kp, F_2.bindsN (fun _ _ _ _ _ _ us hl => match us, hl with | [_, _], _ => rfl), fn_ok F_2 sc_minus fun cdv A outer s H E hr => ?_⟩
  have nd := sc_minus.nd
  exact (mss_cons (ms_ret (me_callF (ok_frac X G c) hr (ma_cons (me_sub (me_mul (me_ix (me_var 0) me_int) (me_ix (me_var 1) me_int)) (me_mul (me_ix (me_var 1) me_int) (me_ix (me_var 0) me_int))) (ma_cons (me_mul (me_ix (me_var 0) me_int) (me_ix (me_var 1) me_int)) ma_nil)))) mss_nil)
theorem ok_over : HasFn P w K mg base "over" 3 d_over := by
  obtain ⟨fd_3, F_3⟩ := c.d.def_ 3 (d := ⟨("over", none), "over", "over", defArgs s_over, defBody s_over, defScope s_over, [], []⟩) rfl
  refine ⟨_, fd_3, ["one", "other"], He.glo_ok X G (c.d.fact 3 (f := .glo "over") rfl), F_3.kp, F_3.bindsN (fun _ _ _ _ _ _ us hl => match us, hl with | [_, _], _ => rfl), fn_ok F_3 sc_over fun cdv A outer s H E hr => ?_⟩
  have nd := sc_over.nd
  exact (mss_cons (ms_ret (me_callF (ok_frac X G c) hr (ma_cons (me_mul (me_ix (me_var 0) me_int) (me_ix (me_var 1) me_int)) (ma_cons (me_mul (me_ix (me_var 0) me_int) (me_ix (me_var 1) me_int)) ma_nil)))) mss_nil)
theorem ok_sign : HasFn P w K mg base "sign" 1 d_sign := by
  obtain ⟨fd_4, F_4⟩ := c.d.def_ 4 (d := ⟨("sign", none), "sign", "sign", defArgs s_sign, defBody s_sign, defScope s_sign, [], []⟩) rfl
  refine ⟨_, fd_4, ["one"], He.glo_ok X G (c.d.fact 4 (f := .glo "sign") rfl), F_4.kp, F_4.bindsN (fun _ _ _ _ _ _ us hl => match us, hl with | [_], _ => rfl), fn_ok F_4 sc_sign fun cdv A outer s H E hr => ?_⟩
  have nd := sc_sign.nd
  exact (mss_cons (ms_ret (me_sub (mb_int (m_int X G c) (ma_cons (me_gt (me_ix (me_var 0) me_int) me_int) ma_nil)) (mb_int (m_int X G c) (ma_cons (me_lt (me_ix (me_var 0) me_int) me_int) ma_nil)))) mss_nil)
theorem ok_less : HasFn P w K mg base "less" 4 d_less := by
  obtain ⟨fd_5, F_5⟩ := c.d.def_ 5 (d := ⟨("less", none), "less", "less", defArgs s_less, defBody s_less, defScope s_less, [], []⟩) rfl
  refine ⟨_, fd_5, ["one", "other"], He.glo_ok X G (c.d.fact 5 (f := .glo "less") rfl), F_5.kp, F_5.bindsN (fun _ _ _ _ _ _ us hl => match us, hl with | [_, _], _ => rfl), fn_ok F_5 sc_less fun cdv A outer s H E hr => ?_⟩
  have nd := sc_less.nd
  exact (mss_cons (ms_ret (me_lt (me_callF (ok_sign X G c) hr (ma_cons (me_callF (ok_minus X G c) hr (ma_cons (me_var 0) (ma_cons (me_var 1) ma_nil))) ma_nil)) me_int)) mss_nil)
theorem ok_within_sides : HasFn P w K mg base "within_sides" 5 d_within_sides := by
  obtain ⟨fd_6, F_6⟩ := c.d.def_ 6 (d := ⟨("within_sides", none), "within_sides", "within_sides", defArgs s_within_sides, defBody s_within_sides, defScope s_within_sides, [], []⟩) rfl
  refine ⟨_, fd_6, ["low", "high", "place", "way"], He.glo_ok X G (c.d.fact 6 (f := .glo "within_sides") rfl), F_6.kp, F_6.bindsN (fun _ _ _ _ _ _ us hl => match us, hl with | [_, _, _, _], _ => rfl), fn_ok F_6 sc_within_sides fun cdv A outer s H E hr => ?_⟩
  have nd := sc_within_sides.nd
  exact (mss_cons (ms_if (mt_eq hr.units (me_callF (ok_sign X G c) hr (ma_cons (me_var 3) ma_nil)) me_int) (mss_cons (ms_if (mt_bool (mw_or (mt_val (me_callF (ok_less X G c) hr (ma_cons (me_var 2) (ma_cons (me_var 0) ma_nil)))) (mw_or1 (mt_val (me_callF (ok_less X G c) hr (ma_cons (me_var 1) (ma_cons (me_var 2) ma_nil))))))) (mss_cons (ms_ret me_non) mss_nil) mss_nil) (mss_cons (ms_ret (me_tup (ma_cons me_non (ma_cons me_non ma_nil)))) mss_nil)) mss_nil) (mss_cons (ms_set 4 nd (me_callF (ok_over X G c) hr (ma_cons (me_callF (ok_minus X G c) hr (ma_cons (me_var 0) (ma_cons (me_var 2) ma_nil))) (ma_cons (me_var 3) ma_nil)))) (mss_cons (ms_set 5 nd (me_callF (ok_over X G c) hr (ma_cons (me_callF (ok_minus X G c) hr (ma_cons (me_var 1) (ma_cons (me_var 2) ma_nil))) (ma_cons (me_var 3) ma_nil)))) (mss_cons (ms_ret (me_if (mt_val (me_callF (ok_less X G c) hr (ma_cons (me_var 5) (ma_cons (me_var 4) ma_nil)))) (me_tup (ma_cons (me_var 5) (ma_cons (me_var 4) ma_nil))) (me_tup (ma_cons (me_var 4) (ma_cons (me_var 5) ma_nil))))) mss_nil))))
theorem ok_box_stretch : HasFn P w K mg base "box_stretch" 6 d_box_stretch := by
  obtain ⟨fd_7, F_7⟩ := c.d.def_ 7 (d := ⟨("box_stretch", none), "box_stretch", "box_stretch", defArgs s_box_stretch, defBody s_box_stretch, defScope s_box_stretch, [], []⟩) rfl
  refine ⟨_, fd_7, ["box", "ray"], He.glo_ok X G (c.d.fact 7 (f := .glo "box_stretch") rfl), F_7.kp, F_7.bindsN (fun _ _ _ _ _ _ us hl => match us, hl with | [_, _], _ => rfl), fn_ok F_7 sc_box_stretch fun cdv A outer s H E hr => ?_⟩
  have nd := sc_box_stretch.nd
  exact (mss_cons (ms_if (mt_eq hr.units (me_var 0) (me_tup ma_nil)) (mss_cons (ms_ret me_non) mss_nil) mss_nil) (mss_cons (ms_set 2 nd (me_cst (c_NOUGHT X G c))) (mss_cons (ms_set 3 nd me_non) (mss_cons (ms_for PassesOwn.never rfl (mi_zp4 (by rfl) (m_zip X G c) (ma_cons (me_ix (me_var 0) me_int) (ma_cons (me_ix (me_var 0) me_int) (ma_cons (me_ix (me_var 1) me_int) (ma_cons (me_ix (me_var 1) me_int) ma_nil))))) (mg_tup rfl (mgs_cons (mg_name 4 nd) (mgs_cons (mg_name 5 nd) (mgs_cons (mg_name 6 nd) (mgs_cons (mg_name 7 nd) mgs_nil))))) (mss_cons (ms_set 8 nd (me_callF (ok_within_sides X G c) hr (ma_cons (me_var 4) (ma_cons (me_var 5) (ma_cons (me_var 6) (ma_cons (me_var 7) ma_nil)))))) (mss_cons (ms_if (mt_is (me_var 8) me_non) (mss_cons (ms_ret me_non) mss_nil) mss_nil) (mss_cons (ms_if (mt_isNot (me_ix (me_var 8) me_int) me_non) (mss_cons (ms_set 2 nd (me_if (mt_val (me_callF (ok_less X G c) hr (ma_cons (me_var 2) (ma_cons (me_ix (me_var 8) me_int) ma_nil)))) (me_ix (me_var 8) me_int) (me_var 2))) (mss_cons (ms_set 3 nd (me_if (mt_bool (mw_or (mt_is (me_var 3) me_non) (mw_or1 (mt_val (me_callF (ok_less X G c) hr (ma_cons (me_ix (me_var 8) me_int) (ma_cons (me_var 3) ma_nil))))))) (me_ix (me_var 8) me_int) (me_var 3))) mss_nil)) mss_nil) mss_nil)))) (mss_cons (ms_if (mt_bool (mw_and (mt_isNot (me_var 3) me_non) (mw_and1 (mt_val (me_callF (ok_less X G c) hr (ma_cons (me_var 3) (ma_cons (me_var 2) ma_nil))))))) (mss_cons (ms_ret me_non) mss_nil) mss_nil) (mss_cons (ms_ret (me_tup (ma_cons (me_var 2) (ma_cons (me_var 3) ma_nil)))) mss_nil))))))
theorem ok__law_deck : HasFn P w K mg base "_law_deck" 1 d__law_deck := by
  obtain ⟨fd_8, F_8⟩ := c.d.def_ 8 (d := ⟨("_law_deck", none), "_law_deck", "_law_deck", defArgs s__law_deck, defBody s__law_deck, defScope s__law_deck, [], []⟩) rfl
  refine ⟨_, fd_8, ["_law_script"], He.glo_ok X G (c.d.fact 8 (f := .glo "_law_deck") rfl), F_8.kp, F_8.bindsN (fun _ _ _ _ _ _ us hl => match us, hl with | [_], _ => rfl), fn_ok F_8 sc__law_deck fun cdv A outer s H E hr => ?_⟩
  have nd := sc__law_deck.nd
  exact (mss_cons (ms_set 1 nd (me_add (me_own (mu_lc [("_law_one", 2)] rfl nd (mi_seq (me_var 0)) (blkOk_by (N := ["_law_script", "_law_ones", "_law_one"]) (sc := defScope s__law_deck) (by decide +kernel)) (fun _ _ _ _ _ => (pg_name (i := 2) nd rfl (Or.inl rfl))) (gc_name (by decide)) (fun _ _ _ _ _ => mts_nil) (fun _ _ _ _ _ => (mb_abs (m_abs X G c) (ma_cons (me_var 2) ma_nil))))) (me_mul (me_own (mu_lst (ma_cons me_int ma_nil))) (mb_int (m_int X G c) (ma_cons (me_eq hr.units (mb_len (m_len X G c) (ma_cons (me_var 0) ma_nil)) me_int) ma_nil))))) (mss_cons (ms_ret (me_own (mu_lst (ma_cons (me_var 1) (ma_cons (me_own (mu_lc [("_law_one", 2)] rfl nd (mi_seq (me_var 1)) (blkOk_by (N := ["_law_script", "_law_ones", "_law_one"]) (sc := defScope s__law_deck) (by decide +kernel)) (fun _ _ _ _ _ => (pg_name (i := 2) nd rfl (Or.inl rfl))) (gc_name (by decide)) (fun _ _ _ _ _ => (mts_one (mt_ge (me_var 2) (me_pow me_int me_int)))) (fun _ _ _ _ _ => (me_var 2)))) (ma_cons me_int (ma_cons me_int ma_nil))))))) mss_nil))
theorem ok__law_take : HasFn P w K mg base "_law_take" 1 d__law_take := by
  obtain ⟨fd_9, F_9⟩ := c.d.def_ 9 (d := ⟨("_law_take", none), "_law_take", "_law_take", defArgs s__law_take, defBody s__law_take, defScope s__law_take, [], []⟩) rfl
  refine ⟨_, fd_9, ["_law_deck_here", "_law_many"], He.glo_ok X G (c.d.fact 9 (f := .glo "_law_take") rfl), F_9.kp, F_9.bindsN (fun _ _ _ _ _ _ us hl => match us, hl with | [_, _], _ => rfl), fn_ok F_9 sc__law_take fun cdv A outer s H E hr => ?_⟩
  have nd := sc__law_take.nd
  exact (mss_cons (ms_while PassesOwn.never (mt_lt (me_ix (me_var 0) me_int) (mb_len (m_len X G c) (ma_cons (me_ix (me_var 0) me_int) ma_nil))) (mss_cons (ms_set 2 nd (me_ix (me_ix (me_var 0) me_int) (me_ix (me_var 0) me_int))) (mss_cons (ms_if (mt_gt (me_var 2) me_int) (mss_cons (ms_asg (me_fdiv (me_var 2) (me_var 1)) (mg_sub (me_ix (me_var 0) me_int) (me_ix (me_var 0) me_int))) (mss_cons (ms_ret (me_mod (me_var 2) (me_var 1))) mss_nil)) mss_nil) (mss_cons (ms_asg (me_add (me_ix (me_var 0) me_int) me_int) (mg_sub (me_var 0) me_int)) mss_nil)))) (mss_cons (ms_asg (me_add (me_ix (me_var 0) me_int) me_int) (mg_sub (me_var 0) me_int)) (mss_cons (ms_set 2 nd (me_add (me_mod (me_ix (me_ix (me_var 0) me_int) (me_mod (me_ix (me_var 0) me_int) (mb_len (m_len X G c) (ma_cons (me_ix (me_var 0) me_int) ma_nil)))) me_int) me_int)) (mss_cons (ms_ret (me_mod (me_fdiv (me_mod (me_pow (me_add (me_mul (me_var 2) (me_add (me_ix (me_var 0) me_int) me_int)) (me_mul me_int (me_ix (me_var 0) me_int))) me_int) me_int) me_int) (me_var 1))) mss_nil))))
theorem ok__law_gcd : HasFn P w K mg base "_law_gcd" 1 d__law_gcd := by
  obtain ⟨fd_10, F_10⟩ := c.d.def_ 10 (d := ⟨("_law_gcd", none), "_law_gcd", "_law_gcd", defArgs s__law_gcd, defBody s__law_gcd, defScope s__law_gcd, [], []⟩) rfl
  refine ⟨_, fd_10, ["_law_one", "_law_other"], He.glo_ok X G (c.d.fact 10 (f := .glo "_law_gcd") rfl), F_10.kp, F_10.bindsN (fun _ _ _ _ _ _ us hl => match us, hl with | [_, _], _ => rfl), fn_ok F_10 sc__law_gcd fun cdv A outer s H E hr => ?_⟩
  have nd := sc__law_gcd.nd
  exact (mss_cons (ms_while PassesOwn.never (mt_ne hr.units (me_var 1) me_int) (mss_cons (ms_set 2 nd (me_mod (me_var 0) (me_var 1))) (mss_cons (ms_set 0 nd (me_var 1)) (mss_cons (ms_set 1 nd (me_var 2)) mss_nil)))) (mss_cons (ms_ret (mb_abs (m_abs X G c) (ma_cons (me_var 0) ma_nil))) mss_nil))
theorem ok__law_part : HasFn P w K mg base "_law_part" 2 d__law_part := by
  obtain ⟨fd_11, F_11⟩ := c.d.def_ 11 (d := ⟨("_law_part", none), "_law_part", "_law_part", defArgs s__law_part, defBody s__law_part, defScope s__law_part, [], []⟩) rfl
  refine ⟨_, fd_11, ["_law_top", "_law_bottom"], He.glo_ok X G (c.d.fact 11 (f := .glo "_law_part") rfl), F_11.kp, F_11.bindsN (fun _ _ _ _ _ _ us hl => match us, hl with | [_, _], _ => rfl), fn_ok F_11 sc__law_part fun cdv A outer s H E hr => ?_⟩
  have nd := sc__law_part.nd
  exact (mss_cons (ms_set 2 nd (me_callF (ok__law_gcd X G c) hr (ma_cons (me_var 0) (ma_cons (me_var 1) ma_nil)))) (mss_cons (ms_if (mt_lt (me_var 1) me_int) (mss_cons (ms_set 2 nd (me_neg (me_var 2))) mss_nil) mss_nil) (mss_cons (ms_ret (me_tup (ma_cons (me_fdiv (me_var 0) (me_var 2)) (ma_cons (me_fdiv (me_var 1) (me_var 2)) ma_nil)))) mss_nil)))
theorem ok__law_number : HasFn P w K mg base "_law_number" 3 d__law_number := by
  obtain ⟨fd_12, F_12⟩ := c.d.def_ 12 (d := ⟨("_law_number", none), "_law_number", "_law_number", defArgs s__law_number, defBody s__law_number, defScope s__law_number, [], []⟩) rfl
  refine ⟨_, fd_12, ["_law_deck_here", "_law_far"], He.glo_ok X G (c.d.fact 12 (f := .glo "_law_number") rfl), F_12.kp, F_12.bindsN (fun _ _ _ _ _ _ us hl => match us, hl with | [_, _], _ => rfl), fn_ok F_12 sc__law_number fun cdv A outer s H E hr => ?_⟩
  have nd := sc__law_number.nd
  exact (mss_cons (ms_set 2 nd (me_uix (mu_lst (ma_cons me_int (ma_cons me_int (ma_cons me_int (ma_cons me_int (ma_cons me_int (ma_cons me_int ma_nil))))))) (me_callF (ok__law_take X G c) hr (ma_cons (me_var 0) (ma_cons me_int ma_nil))))) (mss_cons (ms_ret (me_callF (ok__law_part X G c) hr (ma_cons (me_sub (me_callF (ok__law_take X G c) hr (ma_cons (me_var 0) (ma_cons (me_add (me_mul (me_mul me_int (me_var 1)) (me_var 2)) me_int) ma_nil))) (me_mul (me_var 1) (me_var 2))) (ma_cons (me_var 2) ma_nil)))) mss_nil))
theorem ok__law_point : HasFn P w K mg base "_law_point" 4 d__law_point := by
  obtain ⟨fd_13, F_13⟩ := c.d.def_ 13 (d := ⟨("_law_point", none), "_law_point", "_law_point", defArgs s__law_point, defBody s__law_point, defScope s__law_point, [], []⟩) rfl
  refine ⟨_, fd_13, ["_law_deck_here", "_law_far"], He.glo_ok X G (c.d.fact 13 (f := .glo "_law_point") rfl), F_13.kp, F_13.bindsN (fun _ _ _ _ _ _ us hl => match us, hl with | [_, _], _ => rfl), fn_ok F_13 sc__law_point fun cdv A outer s H E hr => ?_⟩
  have nd := sc__law_point.nd
  exact (mss_cons (ms_ret (me_tup (ma_cons (me_callF (ok__law_number X G c) hr (ma_cons (me_var 0) (ma_cons (me_var 1) ma_nil))) (ma_cons (me_callF (ok__law_number X G c) hr (ma_cons (me_var 0) (ma_cons (me_var 1) ma_nil))) (ma_cons (me_callF (ok__law_number X G c) hr (ma_cons (me_var 0) (ma_cons (me_var 1) ma_nil))) ma_nil))))) mss_nil)
theorem ok__law_plus : HasFn P w K mg base "_law_plus" 3 d__law_plus := by
  obtain ⟨fd_14, F_14⟩ := c.d.def_ 14 (d := ⟨("_law_plus", none), "_law_plus", "_law_plus", defArgs s__law_plus, defBody s__law_plus, defScope s__law_plus, [], []⟩) rfl
  refine ⟨_, fd_14, ["_law_one", "_law_other"], He.glo_ok X G (c.d.fact 14 (f := .glo "_law_plus") rfl), F_14.kp, F_14.bindsN (fun _ _ _ _ _ _ us hl => match us, hl with | [_, _], _ => rfl), fn_ok F_14 sc__law_plus fun cdv A outer s H E hr => ?_⟩
  have nd := sc__law_plus.nd
  exact (mss_cons (ms_ret (me_callF (ok__law_part X G c) hr (ma_cons (me_add (me_mul (me_ix (me_var 0) me_int) (me_ix (me_var 1) me_int)) (me_mul (me_ix (me_var 1) me_int) (me_ix (me_var 0) me_int))) (ma_cons (me_mul (me_ix (me_var 0) me_int) (me_ix (me_var 1) me_int)) ma_nil)))) mss_nil)
theorem ok__law_times : HasFn P w K mg base "_law_times" 3 d__law_times := by
  obtain ⟨fd_15, F_15⟩ := c.d.def_ 15 (d := ⟨("_law_times", none), "_law_times", "_law_times", defArgs s__law_times, defBody s__law_times, defScope s__law_times, [], []⟩) rfl
  refine ⟨_, fd_15, ["_law_one", "_law_other"], He.glo_ok X G (c.d.fact 15 (f := .glo "_law_times") rfl), F_15.kp, F_15.bindsN (fun _ _ _ _ _ _ us hl => match us, hl with | [_, _], _ => rfl), fn_ok F_15 sc__law_times fun cdv A outer s H E hr => ?_⟩
  have nd := sc__law_times.nd
  exact (mss_cons (ms_ret (me_callF (ok__law_part X G c) hr (ma_cons (me_mul (me_ix (me_var 0) me_int) (me_ix (me_var 1) me_int)) (ma_cons (me_mul (me_ix (me_var 0) me_int) (me_ix (me_var 1) me_int)) ma_nil)))) mss_nil)
theorem ok__law_less : HasFn P w K mg base "_law_less" 3 d__law_less := by
  obtain ⟨fd_16, F_16⟩ := c.d.def_ 16 (d := ⟨("_law_less", none), "_law_less", "_law_less", defArgs s__law_less, defBody s__law_less, defScope s__law_less, [], []⟩) rfl
  refine ⟨_, fd_16, ["_law_one", "_law_other"], He.glo_ok X G (c.d.fact 16 (f := .glo "_law_less") rfl), F_16.kp, F_16.bindsN (fun _ _ _ _ _ _ us hl => match us, hl with | [_, _], _ => rfl), fn_ok F_16 sc__law_less fun cdv A outer s H E hr => ?_⟩
  have nd := sc__law_less.nd
  exact (mss_cons (ms_ret (me_callF (ok__law_part X G c) hr (ma_cons (me_sub (me_mul (me_ix (me_var 0) me_int) (me_ix (me_var 1) me_int)) (me_mul (me_ix (me_var 1) me_int) (me_ix (me_var 0) me_int))) (ma_cons (me_mul (me_ix (me_var 0) me_int) (me_ix (me_var 1) me_int)) ma_nil)))) mss_nil)
theorem ok__law_way : HasFn P w K mg base "_law_way" 2 d__law_way := by
  obtain ⟨fd_17, F_17⟩ := c.d.def_ 17 (d := ⟨("_law_way", none), "_law_way", "_law_way", defArgs s__law_way, defBody s__law_way, defScope s__law_way, [], []⟩) rfl
  refine ⟨_, fd_17, ["_law_deck_here"], He.glo_ok X G (c.d.fact 17 (f := .glo "_law_way") rfl), F_17.kp, F_17.bindsN (fun _ _ _ _ _ _ us hl => match us, hl with | [_], _ => rfl), fn_ok F_17 sc__law_way fun cdv A outer s H E hr => ?_⟩
  have nd := sc__law_way.nd
  exact (mss_cons (ms_setLc 1 [("_law_k", 2)] rfl nd (mi_range1 (by rfl) (m_range X G c) me_int) (blkOk_by (N := ["_law_deck_here", "_law_way_here", "_law_k"]) (sc := defScope s__law_way) (by decide +kernel)) (fun _ _ _ _ _ => (pg_name (i := 2) nd rfl (Or.inl rfl))) (gc_name (by decide)) (fun _ _ _ _ _ => mts_nil) (fun _ _ _ _ _ => (me_tup (ma_cons (me_sub (me_callF (ok__law_take X G c) hr (ma_cons (me_var 0) (ma_cons me_int ma_nil))) me_int) (ma_cons me_int ma_nil))))) (mss_cons (ms_if (mt_eq hr.units (me_var 1) (me_mul (me_own (mu_lst (ma_cons (me_tup (ma_cons me_int (ma_cons me_int ma_nil))) ma_nil))) me_int)) (mss_cons (ms_asg (me_tup (ma_cons me_int (ma_cons me_int ma_nil))) (mg_sub (me_var 1) (me_callF (ok__law_take X G c) hr (ma_cons (me_var 0) (ma_cons me_int ma_nil))))) mss_nil) mss_nil) (mss_cons (ms_ret (mb_tuple (m_tuple X G c) (ma_cons (me_var 1) ma_nil))) mss_nil)))
theorem ok__law_put : HasFn P w K mg base "_law_put" 1 d__law_put := by
  obtain ⟨fd_18, F_18⟩ := c.d.def_ 18 (d := ⟨("_law_put", none), "_law_put", "_law_put", defArgs s__law_put, defBody s__law_put, defScope s__law_put, [], []⟩) rfl
  refine ⟨_, fd_18, ["_law_row", "_law_at", "_law_thing"], He.glo_ok X G (c.d.fact 18 (f := .glo "_law_put") rfl), F_18.kp, F_18.bindsN (fun _ _ _ _ _ _ us hl => match us, hl with | [_, _, _], _ => rfl), fn_ok F_18 sc__law_put fun cdv A outer s H E hr => ?_⟩
  have nd := sc__law_put.nd
  exact (mss_cons (ms_ret (me_add (me_add (me_sl (me_var 0) mo_none (mo_some (me_var 1))) (me_tup (ma_cons (me_var 2) ma_nil))) (me_sl (me_var 0) (mo_some (me_add (me_var 1) me_int)) mo_none))) mss_nil)
theorem ok__law_through : HasFn P w K mg base "_law_through" 3 d__law_through := by
  obtain ⟨fd_19, F_19⟩ := c.d.def_ 19 (d := ⟨("_law_through", none), "_law_through", "_law_through", defArgs s__law_through, defBody s__law_through, defScope s__law_through, [], []⟩) rfl
  refine ⟨_, fd_19, ["_law_one", "_law_other"], He.glo_ok X G (c.d.fact 19 (f := .glo "_law_through") rfl), F_19.kp, F_19.bindsN (fun _ _ _ _ _ _ us hl => match us, hl with | [_, _], _ => rfl), fn_ok F_19 sc__law_through fun cdv A outer s H E hr => ?_⟩
  have nd := sc__law_through.nd
  exact (mss_cons (ms_ret (me_callF (ok__law_part X G c) hr (ma_cons (me_mul (me_ix (me_var 0) me_int) (me_ix (me_var 1) me_int)) (ma_cons (me_mul (me_ix (me_var 0) me_int) (me_ix (me_var 1) me_int)) ma_nil)))) mss_nil)
theorem ok__law_span : HasFn P w K mg base "_law_span" 4 d__law_span := by
  obtain ⟨fd_20, F_20⟩ := c.d.def_ 20 (d := ⟨("_law_span", none), "_law_span", "_law_span", defArgs s__law_span, defBody s__law_span, defScope s__law_span, [], []⟩) rfl
  refine ⟨_, fd_20, ["_law_box", "_law_ray_here"], He.glo_ok X G (c.d.fact 20 (f := .glo "_law_span") rfl), F_20.kp, F_20.bindsN (fun _ _ _ _ _ _ us hl => match us, hl with | [_, _], _ => rfl), fn_ok F_20 sc__law_span fun cdv A outer s H E hr => ?_⟩
  have nd := sc__law_span.nd
  exact (mss_cons (ms_set 2 nd (me_tup (ma_cons me_int (ma_cons me_int ma_nil)))) (mss_cons (ms_set 3 nd me_non) (mss_cons (ms_for PassesOwn.never rfl (mi_range1 (by rfl) (m_range X G c) me_int) (mg_name 4 nd) (mss_cons (ms_set 5 nd (me_callF (ok__law_less X G c) hr (ma_cons (me_ix (me_ix (me_var 0) me_int) (me_var 4)) (ma_cons (me_ix (me_ix (me_var 1) me_int) (me_var 4)) ma_nil)))) (mss_cons (ms_set 6 nd (me_callF (ok__law_less X G c) hr (ma_cons (me_ix (me_ix (me_var 0) me_int) (me_var 4)) (ma_cons (me_ix (me_ix (me_var 1) me_int) (me_var 4)) ma_nil)))) (mss_cons (ms_set 7 nd (me_ix (me_ix (me_var 1) me_int) (me_var 4))) (mss_cons (ms_if (mt_eq hr.units (me_ix (me_var 7) me_int) me_int) (mss_cons (ms_if (mt_bool (mw_or (mt_gt (me_ix (me_var 5) me_int) me_int) (mw_or1 (mt_lt (me_ix (me_var 6) me_int) me_int)))) (mss_cons (ms_ret me_non) mss_nil) mss_nil) mss_nil) (mss_cons (ms_set 8 nd (me_own (mu_lst (ma_cons (me_callF (ok__law_through X G c) hr (ma_cons (me_var 5) (ma_cons (me_var 7) ma_nil))) (ma_cons (me_callF (ok__law_through X G c) hr (ma_cons (me_var 6) (ma_cons (me_var 7) ma_nil))) ma_nil))))) (mss_cons (ms_if (mt_lt (me_ix (me_var 7) me_int) me_int) (mss_cons (ms_set 8 nd (me_own (mu_rev (me_var 8)))) mss_nil) mss_nil) (mss_cons (ms_if (mt_gt (me_ix (me_callF (ok__law_less X G c) hr (ma_cons (me_ix (me_var 8) me_int) (ma_cons (me_var 2) ma_nil))) me_int) me_int) (mss_cons (ms_set 2 nd (me_ix (me_var 8) me_int)) mss_nil) mss_nil) (mss_cons (ms_if (mt_bool (mw_or (mt_is (me_var 3) me_non) (mw_or1 (mt_lt (me_ix (me_callF (ok__law_less X G c) hr (ma_cons (me_ix (me_var 8) me_int) (ma_cons (me_var 3) ma_nil))) me_int) me_int)))) (mss_cons (ms_set 3 nd (me_ix (me_var 8) me_int)) mss_nil) mss_nil) mss_nil))))) mss_nil))))) (mss_cons (ms_if (mt_lt (me_ix (me_callF (ok__law_less X G c) hr (ma_cons (me_var 3) (ma_cons (me_var 2) ma_nil))) me_int) me_int) (mss_cons (ms_ret me_non) mss_nil) mss_nil) (mss_cons (ms_ret (me_tup (ma_cons (me_var 2) (ma_cons (me_var 3) ma_nil)))) mss_nil)))))
theorem ok__law_ray : HasFn P w K mg base "_law_ray" 5 d__law_ray := by
  obtain ⟨fd_21, F_21⟩ := c.d.def_ 21 (d := ⟨("_law_ray", none), "_law_ray", "_law_ray", defArgs s__law_ray, defBody s__law_ray, defScope s__law_ray, [], []⟩) rfl
  refine ⟨_, fd_21, ["_law_deck_here"], He.glo_ok X G (c.d.fact 21 (f := .glo "_law_ray") rfl), F_21.kp, F_21.bindsN (fun _ _ _ _ _ _ us hl => match us, hl with | [_], _ => rfl), fn_ok F_21 sc__law_ray fun cdv A outer s H E hr => ?_⟩
  have nd := sc__law_ray.nd
  exact (mss_cons (ms_ret (me_tup (ma_cons (me_callF (ok__law_point X G c) hr (ma_cons (me_var 0) (ma_cons me_int ma_nil))) (ma_cons (me_callF (ok__law_way X G c) hr (ma_cons (me_var 0) ma_nil)) ma_nil)))) mss_nil)
theorem ok__law_flat_box : HasFn P w K mg base "_law_flat_box" 5 d__law_flat_box := by
  obtain ⟨fd_22, F_22⟩ := c.d.def_ 22 (d := ⟨("_law_flat_box", none), "_law_flat_box", "_law_flat_box", defArgs s__law_flat_box, defBody s__law_flat_box, defScope s__law_flat_box, [], []⟩) rfl
  refine ⟨_, fd_22, ["_law_deck_here"], He.glo_ok X G (c.d.fact 22 (f := .glo "_law_flat_box") rfl), F_22.kp, F_22.bindsN (fun _ _ _ _ _ _ us hl => match us, hl with | [_], _ => rfl), fn_ok F_22 sc__law_flat_box fun cdv A outer s H E hr => ?_⟩
  have nd := sc__law_flat_box.nd
  exact (mss_cons (ms_set 1 nd (me_callF (ok__law_point X G c) hr (ma_cons (me_var 0) (ma_cons me_int ma_nil)))) (mss_cons (ms_set 2 nd (mbu_tuple (m_tuple X G c) (mu_lc [("_law_part_here", 3)] rfl nd (mi_seq (me_var 1)) (blkOk_by (N := ["_law_deck_here", "_law_low", "_law_high", "_law_part_here"]) (sc := defScope s__law_flat_box) (by decide +kernel)) (fun _ _ _ _ _ => (pg_name (i := 3) nd rfl (Or.inl rfl))) (gc_name (by decide)) (fun _ _ _ _ _ => mts_nil) (fun _ _ _ _ _ => (me_callF (ok__law_plus X G c) hr (ma_cons (me_var 3) (ma_cons (me_callF (ok__law_part X G c) hr (ma_cons (me_callF (ok__law_take X G c) hr (ma_cons (me_var 0) (ma_cons me_int ma_nil))) (ma_cons (me_add me_int (me_callF (ok__law_take X G c) hr (ma_cons (me_var 0) (ma_cons me_int ma_nil)))) ma_nil))) ma_nil))))))) (mss_cons (ms_ret (me_tup (ma_cons (me_var 1) (ma_cons (me_var 2) ma_nil)))) mss_nil)))
theorem ok__law_spot_of : HasFn P w K mg base "_law_spot_of" 4 d__law_spot_of := by
  obtain ⟨fd_23, F_23⟩ := c.d.def_ 23 (d := ⟨("_law_spot_of", none), "_law_spot_of", "_law_spot_of", defArgs s__law_spot_of, defBody s__law_spot_of, defScope s__law_spot_of, [], []⟩) rfl
  refine ⟨_, fd_23, ["_law_deck_here", "_law_box"], He.glo_ok X G (c.d.fact 23 (f := .glo "_law_spot_of") rfl), F_23.kp, F_23.bindsN (fun _ _ _ _ _ _ us hl => match us, hl with | [_, _], _ => rfl), fn_ok F_23 sc__law_spot_of fun cdv A outer s H E hr => ?_⟩
  have nd := sc__law_spot_of.nd
  exact (mss_cons (ms_set 2 nd (me_own (mu_lst ma_nil))) (mss_cons (ms_for PassesOwn.never rfl (mi_range1 (by rfl) (m_range X G c) me_int) (mg_name 3 nd) (mss_cons (ms_set 4 nd (me_uix (mu_lst (ma_cons (me_tup (ma_cons me_int (ma_cons me_int ma_nil))) (ma_cons (me_tup (ma_cons me_int (ma_cons me_int ma_nil))) (ma_cons (me_tup (ma_cons me_int (ma_cons me_int ma_nil))) (ma_cons (me_tup (ma_cons me_int (ma_cons me_int ma_nil))) ma_nil))))) (me_callF (ok__law_take X G c) hr (ma_cons (me_var 0) (ma_cons me_int ma_nil))))) (mss_cons (ms_expr (mm_append (me_var 2) (ma_cons (me_callF (ok__law_plus X G c) hr (ma_cons (me_ix (me_ix (me_var 1) me_int) (me_var 3)) (ma_cons (me_callF (ok__law_times X G c) hr (ma_cons (me_var 4) (ma_cons (me_callF (ok__law_less X G c) hr (ma_cons (me_ix (me_ix (me_var 1) me_int) (me_var 3)) (ma_cons (me_ix (me_ix (me_var 1) me_int) (me_var 3)) ma_nil))) ma_nil))) ma_nil))) ma_nil))) mss_nil))) (mss_cons (ms_ret (mb_tuple (m_tuple X G c) (ma_cons (me_var 2) ma_nil))) mss_nil)))
theorem ok__law_ray_by : HasFn P w K mg base "_law_ray_by" 5 d__law_ray_by := by
  obtain ⟨fd_24, F_24⟩ := c.d.def_ 24 (d := ⟨("_law_ray_by", none), "_law_ray_by", "_law_ray_by", defArgs s__law_ray_by, defBody s__law_ray_by, defScope s__law_ray_by, [], []⟩) rfl
  refine ⟨_, fd_24, ["_law_deck_here", "_law_box"], He.glo_ok X G (c.d.fact 24 (f := .glo "_law_ray_by") rfl), F_24.kp, F_24.bindsN (fun _ _ _ _ _ _ us hl => match us, hl with | [_, _], _ => rfl), fn_ok F_24 sc__law_ray_by fun cdv A outer s H E hr => ?_⟩
  have nd := sc__law_ray_by.nd
  exact (mss_cons (ms_set 2 nd (me_callF (ok__law_take X G c) hr (ma_cons (me_var 0) (ma_cons me_int ma_nil)))) (mss_cons (ms_set 3 nd (me_callF (ok__law_point X G c) hr (ma_cons (me_var 0) (ma_cons me_int ma_nil)))) (mss_cons (ms_if (mt_eq hr.units (me_var 2) me_int) (mss_cons (ms_ret (me_tup (ma_cons (me_var 3) (ma_cons (me_callF (ok__law_way X G c) hr (ma_cons (me_var 0) ma_nil)) ma_nil)))) mss_nil) mss_nil) (mss_cons (ms_if (mt_eq hr.units (me_var 2) me_int) (mss_cons (ms_ret (me_tup (ma_cons (me_callF (ok__law_spot_of X G c) hr (ma_cons (me_var 0) (ma_cons (me_var 1) ma_nil))) (ma_cons (me_callF (ok__law_way X G c) hr (ma_cons (me_var 0) ma_nil)) ma_nil)))) mss_nil) mss_nil) (mss_cons (ms_set 4 nd (me_callF (ok__law_spot_of X G c) hr (ma_cons (me_var 0) (ma_cons (me_var 1) ma_nil)))) (mss_cons (ms_setLc 5 [("_law_k", 7)] rfl nd (mi_range1 (by rfl) (m_range X G c) me_int) (blkOk_by (N := ["_law_deck_here", "_law_box", "_law_kind", "_law_place", "_law_to", "_law_way_here", "_law_at", "_law_k", "_law_part_here"]) (sc := defScope s__law_ray_by) (by decide +kernel)) (fun _ _ _ _ _ => (pg_name (i := 7) nd rfl (Or.inl rfl))) (gc_name (by decide)) (fun _ _ _ _ _ => mts_nil) (fun _ _ _ _ _ => (me_callF (ok__law_less X G c) hr (ma_cons (me_ix (me_var 4) (me_var 7)) (ma_cons (me_ix (me_var 3) (me_var 7)) ma_nil))))) (mss_cons (ms_if (mt_eq hr.units (me_var 2) me_int) (mss_cons (ms_set 6 nd (me_callF (ok__law_take X G c) hr (ma_cons (me_var 0) (ma_cons me_int ma_nil)))) (mss_cons (ms_asg (me_tup (ma_cons me_int (ma_cons me_int ma_nil))) (mg_sub (me_var 5) (me_var 6))) (mss_cons (ms_set 3 nd (me_callF (ok__law_put X G c) hr (ma_cons (me_var 3) (ma_cons (me_var 6) (ma_cons (me_ix (me_var 4) (me_var 6)) ma_nil))))) mss_nil))) mss_nil) (mss_cons (ms_if (mt_eq hr.units (me_var 2) me_int) (mss_cons (ms_setLc 5 [("_law_part_here", 8)] rfl nd (mi_seq (me_var 5)) (blkOk_by (N := ["_law_deck_here", "_law_box", "_law_kind", "_law_place", "_law_to", "_law_way_here", "_law_at", "_law_k", "_law_part_here"]) (sc := defScope s__law_ray_by) (by decide +kernel)) (fun _ _ _ _ _ => (pg_name (i := 8) nd rfl (Or.inl rfl))) (gc_name (by decide)) (fun _ _ _ _ _ => mts_nil) (fun _ _ _ _ _ => (me_tup (ma_cons (me_neg (me_ix (me_var 8) me_int)) (ma_cons (me_ix (me_var 8) me_int) ma_nil))))) mss_nil) mss_nil) (mss_cons (ms_if (mt_eq hr.units (me_var 5) (me_mul (me_own (mu_lst (ma_cons (me_tup (ma_cons me_int (ma_cons me_int ma_nil))) ma_nil))) me_int)) (mss_cons (ms_asg (me_tup (ma_cons (me_neg me_int) (ma_cons me_int ma_nil))) (mg_sub (me_var 5) (me_callF (ok__law_take X G c) hr (ma_cons (me_var 0) (ma_cons me_int ma_nil))))) mss_nil) mss_nil) (mss_cons (ms_ret (me_tup (ma_cons (me_var 3) (ma_cons (mb_tuple (m_tuple X G c) (ma_cons (me_var 5) ma_nil)) ma_nil)))) mss_nil))))))))))
theorem fnl_law {f : Addr} {fd : FuncData} (F : FunD K "law" "law" (defArgs s_law) (defBody s_law) (defScope s_law) [] [] f fd) : AtA P w K mg base callerA f fd ["_law_script"] (spD ⟨K, mg⟩ d_law) := by
  refine fn_at F sc_law rfl (by decide) fun cdv outer s H E => ?_
  have hr : Room 6 (callerA.deeper (envOfC "law" (defScope s_law) s.heap.objs.size f cdv)) := Room.deeper ⟨rfl, by decide, by decide⟩ _
  have nd := sc_law.nd
  exact (mss_cons (ms_set 1 nd (me_callF (ok__law_deck X G c) hr (ma_cons (me_var 0) ma_nil))) (mss_cons (ms_for PassesOwn.never rfl (mi_range1 (by rfl) (m_range X G c) me_int) (mg_name 2 nd) (mss_cons (ms_set 3 nd (me_callF (ok__law_flat_box X G c) hr (ma_cons (me_var 1) ma_nil))) (mss_cons (ms_set 4 nd (me_callF (ok__law_ray_by X G c) hr (ma_cons (me_var 1) (ma_cons (me_var 3) ma_nil)))) (mss_cons (ms_if (mt_ne hr.units (mb_repr rfl hr.units (m_repr X G c) (ma_cons (me_callF (ok_box_stretch X G c) hr (ma_cons (me_var 3) (ma_cons (me_var 4) ma_nil))) ma_nil)) (mb_repr rfl hr.units (m_repr X G c) (ma_cons (me_callF (ok__law_span X G c) hr (ma_cons (me_var 3) (ma_cons (me_var 4) ma_nil))) ma_nil))) (mss_cons (ms_ret me_bl) mss_nil) mss_nil) mss_nil)))) (mss_cons (ms_ret (me_is (me_callF (ok_box_stretch X G c) hr (ma_cons (me_tup ma_nil) (ma_cons (me_callF (ok__law_ray X G c) hr (ma_cons (me_var 1) ma_nil)) ma_nil))) me_non)) mss_nil)))
end
end Cl

namespace ML
open PySem PySem.Spec PyProof.Rows L2
/-! ### the head's facts read off the last N objects -/
def adr (N n : Nat) : List Addr := mainGlobals :: (List.range N).map fun i => n - 1 - i
def obsZ (N : Nat) (fa : List He.Fa) (fn : List He.DefD) (cs : List (Str × D)) (ts : List TabD) (g : Addr → Option Obj) (n : Nat) : AlY := obsY fa fn cs ts (He.frG g (adr N n))
def hookZ (N : Nat) (fa : List He.Fa) (fn : List He.DefD) (cs : List (Str × D)) (ts : List TabD) : PySem.W.Hook where
  α := AlY
  obs := fun s => obsZ N fa fn cs ts s.heap.get? s.heap.objs.size
  val := fun w => valY fn ts w
  says := fun w h => ∃ K : PySem.W.Frag, K.In h ∧ SaysY fa fn cs ts w K
  of := fun _ _ e => ⟨_, He.frG_in, e⟩
  keeps := fun _ _ _ ⟨K, hK, c⟩ k => ⟨K, PySem.W.Frag.In.keeps hK k, c⟩
theorem obsZ_eq {N : Nat} {fa : List He.Fa} {fn : List He.DefD} {cs : List (Str × D)} {ts : List TabD} (s : PySem.W.SharedT) : obsZ N fa fn cs ts (HandSHeadRun.getT s) s.n = (hookZ N fa fn cs ts).obs s.abs := by
  have e : HandSHeadRun.getT s = s.abs.heap.get? := funext fun a => HandSHeadRun.getT_eq s a
  have z : s.abs.heap.objs.size = s.n := PySem.W.absHeap_size _ _ _
  show _ = obsZ N fa fn cs ts s.abs.heap.get? s.abs.heap.objs.size
  rw [e, z]
/-! ### the head's run, looked at part by part -/
section
variable {fa fa1 fa2 : List He.Fa} {fn fn1 fn2 : List He.DefD} {cs cs1 cs2 : List (Str × D)} {ts ts1 ts2 : List TabD} {K : PySem.W.Frag} {w : World} {N : Nat} {E : Option PySem.W.SharedT}
theorem obsY_app (h1 : obsY fa1 fn1 cs1 ts1 K = valY fn1 ts1 w) (h2 : obsY fa2 fn2 cs2 ts2 K = valY fn2 ts2 w) : obsY (fa1 ++ fa2) (fn1 ++ fn2) (cs1 ++ cs2) (ts1 ++ ts2) K = valY (fn1 ++ fn2) (ts1 ++ ts2) w := by
  unfold obsY obsX He.obsD valY He.valD at *
  simp only [Prod.mk.injEq, Bool.and_eq_true] at h1 h2
  obtain ⟨⟨⟨⟨⟨a1, a2⟩, a3⟩, a4⟩, a5⟩, a6⟩ := h1
  obtain ⟨⟨⟨⟨⟨b1, b2⟩, b3⟩, b4⟩, b5⟩, b6⟩ := h2
  simp only [List.all_append, List.map_append, a1, a2, a3, a4, a5, a6, b1, b2, b3, b4, b5, b6, Bool.and_self]
def Chunk (N : Nat) (E : Option PySem.W.SharedT) (fa : List He.Fa) (fn : List He.DefD) (cs : List (Str × D)) (ts : List TabD) (w : World) : Prop := E.map (fun s => obsZ N fa fn cs ts (HandSHeadRun.getT s) s.n) = some (valY fn ts w)
theorem Chunk.cut (a b c d : Nat) (h1 : Chunk N E (fa.take a) (fn.take b) (cs.take c) (ts.take d) w) (h2 : Chunk N E (fa.drop a) (fn.drop b) (cs.drop c) (ts.drop d) w) : Chunk N E fa fn cs ts w := by
  unfold Chunk at *
  obtain ⟨s, rfl, k1⟩ := Option.map_eq_some_iff.mp h1
  have k2 := Option.some.inj h2
  have k := obsY_app (show obsY (fa.take a) (fn.take b) (cs.take c) (ts.take d) _ = valY _ _ w from k1) (show obsY (fa.drop a) (fn.drop b) (cs.drop c) (ts.drop d) _ = valY _ _ w from k2)
  rw [List.take_append_drop, List.take_append_drop, List.take_append_drop, List.take_append_drop] at k
  exact congrArg some k
end
end ML

namespace Cl
open PySem PySem.Spec PyProof.Rows L2 ML
abbrev R : PySem.W.OpenRow := PySem.W.OpenLaw.row PySem.Challenge.rw_scenetongue_k57_boxes_along_rays
abbrev hk : PySem.W.Hook := hookZ 2000 fa fn cs ts
noncomputable def ob (s : PySem.W.SharedT) : AlY := obsZ 2000 fa fn cs ts (HandSHeadRun.getT s) s.n
theorem ob_eq (s : PySem.W.SharedT) : ob s = hk.obs s.abs := obsZ_eq s
def names : List PySem.Str := (["common_part", "frac", "minus", "over", "sign", "NOUGHT", "less", "within_sides", "box_stretch", "_law_deck", "_law_take", "_law_gcd", "_law_part", "_law_number", "_law_point", "_law_plus", "_law_times", "_law_less", "_law_way", "_law_put", "_law_through", "_law_span", "_law_ray", "_law_flat_box", "_law_spot_of", "_law_ray_by"] : List PySem.Str)
theorem run_a (w : World) : HandSHeadRun.RunEq R (PySem.W.view R.prog [29]) hk ob 4000 names (w.withFollow "special-get-raises" false) := by
  intro os
  kernel_rfl
theorem run_b (w : World) : HandSHeadRun.RunEq R (PySem.W.view R.prog [29]) hk ob 4000 names (w.withFollow "special-get-raises" true) := by
  intro os
  kernel_rfl
theorem run (w : World) : HandSHeadRun.RunEq R (PySem.W.view R.prog [29]) hk ob 4000 names w := PySem.W.byRow2 (P := fun w => HandSHeadRun.RunEq R (PySem.W.view R.prog [29]) hk ob 4000 names w) "special-get-raises" run_a run_b w
end Cl


namespace ML
open PySem PySem.Spec PyProof.Rows L2
/-! ### reckoning with the functions on data -/
section
variable {env : En} {S S' : Sto} {f g : Den} {t u : TDen} {a : ADen} {d : D} {b c : SDen} {op : Op2} {o1 : Op1} {F : Fn} {gg : GDen}
@[simp] theorem x_var {i : Nat} : eVar i env S = match env[i]? with
  | some (some d) => some (d, S)
  | _ => none := rfl
@[simp] theorem x_c : eC d env S = some (d, S) := rfl
@[simp] theorem x_op : eOp op f g env S = (f env S).bind fun p => (g env p.2).bind fun q => op p.1 q.1 q.2 := rfl
@[simp] theorem x_un : eUn o1 f env S = (f env S).bind fun p => o1 p.1 p.2 := rfl
@[simp] theorem x_anil : aNil env S = some ([], S) := rfl
@[simp] theorem x_acons : aCons f a env S = (f env S).bind fun p => (a env p.2).bind fun q => some (p.1 :: q.1, q.2) := rfl
theorem line_pos {n : Nat} (h : n ≤ 1000) : n ≤ sizeLine := Nat.le_of_lt (small1000 h)
@[simp] theorem sl_eq : sizeLine = 16777216 := sizeLine_eq
@[simp] theorem x_tup : eTup a env S = (a env S).bind fun p => if p.1.length ≤ sizeLine then some (.tup p.1, p.2) else none := rfl
@[simp] theorem x_call : eCall F a env S = (a env S).bind fun p => F p.1 p.2 := rfl
@[simp] theorem x_if : eIf t f g env S = (t env S).bind fun p => if p.1 = true then f env p.2 else g env p.2 := rfl
@[simp] theorem x_and : eAnd f g env S = (f env S).bind fun p => (truD p.1 p.2).bind fun k => if k = true then g env p.2 else some p := rfl
@[simp] theorem x_or : eOr f g env S = (f env S).bind fun p => (truD p.1 p.2).bind fun k => if k = true then some p else g env p.2 := rfl
@[simp] theorem x_not : eNot f env S = (f env S).bind fun p => (truD p.1 p.2).bind fun k => some (.bl (!k), p.2) := rfl
@[simp] theorem x_tru : tTru f env S = (f env S).bind fun p => (truD p.1 p.2).map fun k => (k, p.2) := rfl
@[simp] theorem x_asB : asB f env S = (f env S).bind fun p => match p.1 with
  | .bl b => some (b, p.2)
  | _ => none := rfl
@[simp] theorem x_tand : ML.tAnd t u env S = (t env S).bind fun p => if p.1 = true then u env p.2 else some (false, p.2) := rfl
@[simp] theorem x_tor : ML.tOr t u env S = (t env S).bind fun p => if p.1 = true then some (true, p.2) else u env p.2 := rfl
@[simp] theorem x_tnot : ML.tNot t env S = (t env S).bind fun p => some (!p.1, p.2) := rfl
@[simp] theorem x_own {fu : ADen} : eOwn fu env S = (fu env S).bind fun p => some (.loc p.2.length, p.2 ++ [.lst p.1]) := rfl
@[simp] theorem x_u {fu : ADen} : eU F fu env S = (fu env S).bind fun p => F p.1 p.2 := rfl
@[simp] theorem x_ulst {fu : ADen} : uLst fu env S = (fu env S).bind fun p => if p.1.length ≤ sizeLine then some p else none := rfl
@[simp] theorem x_uix {fu : ADen} : eUIx fu f env S = (fu env S).bind fun p => (f env p.2).bind fun q => match q.1 with
  | .int i => (atI p.1 i).map fun d => (d, q.2)
  | _ => none := rfl
@[simp] theorem x_snil : sNil env S = some (.nx, env, S) := rfl
@[simp] theorem x_scons : sCons b c env S = (b env S).bind fun p => match p.1 with
  | .nx => c p.2.1 p.2.2
  | _ => some p := rfl
@[simp] theorem x_asg : sAsg f gg env S = (f env S).bind fun p => (gg p.1 env p.2).bind fun q => some (.nx, q.1, q.2) := rfl
@[simp] theorem x_par {i j : Nat} {fu : ADen} : sPar i j fu env S = (fu env S).bind fun p => match p.1 with
  | [a, b] => some (.nx, (env.set i (some a)).set j (some b), p.2)
  | _ => none := rfl
@[simp] theorem x_par3 {i j l : Nat} {fu : ADen} : sPar3 i j l fu env S = (fu env S).bind fun p => match p.1 with
  | [a, b, c] => some (.nx, ((env.set i (some a)).set j (some b)).set l (some c), p.2)
  | _ => none := rfl
@[simp] theorem x_ret : sRet f env S = (f env S).bind fun p => some (.rt p.1, env, p.2) := rfl
@[simp] theorem x_retN : sRetN env S = some (.rt .non, env, S) := rfl
@[simp] theorem x_expr : sExpr f env S = (f env S).bind fun p => some (.nx, env, p.2) := rfl
@[simp] theorem x_sif : sIf t b c env S = (t env S).bind fun p => if p.1 = true then b env p.2 else c env p.2 := rfl
@[simp] theorem x_bk : sBk env S = some (.bk, env, S) := rfl
@[simp] theorem x_ct : sCt env S = some (.ct, env, S) := rfl
@[simp] theorem x_asgU {fu : ADen} {i : Nat} : sAsgU fu i env S = (fu env S).bind fun p => some (.nx, env.set i (some (.loc p.2.length)), p.2 ++ [.lst p.1]) := rfl
@[simp] theorem x_gname {i : Nat} {env : En} : ML.gName i d env S = some (env.set i (some d), S) := rfl
@[simp] theorem x_gnil {env : En} : ML.gNil [] env S = some (env, S) := rfl
@[simp] theorem x_gcons {env : En} {gs : GsDen} {r : List D} : ML.gCons gg gs (d :: r) env S = (gg d env S).bind fun p => gs r p.1 p.2 := rfl
@[simp] theorem x_gtup {n : Nat} {env : En} {gs : GsDen} {r : List D} : ML.gTup n gs (.tup r) env S = if r.length = n then gs r env S else none := rfl
@[simp] theorem x_tyes : ML.tYes env S = some (true, S) := rfl
/-! operators -/
@[simp] theorem x_add {i j : Int} : gAdd (.int i) (.int j) S = some (.int (i + j), S) := rfl
@[simp] theorem x_addI {i j : Int} : gAddI (.int i) (.int j) S = some (.int (i + j), S) := rfl
@[simp] theorem x_sub {i j : Int} : gSub (.int i) (.int j) S = some (.int (i - j), S) := rfl
@[simp] theorem x_neg {i : Int} : gNeg (.int i) S = some (.int (-i), S) := rfl
theorem x_mul {i j : Int} (h : wideM i j) : gMul (.int i) (.int j) S = some (.int (i * j), S) := if_pos h
theorem x_fdiv {i j : Int} (h : wideD j) : gFdiv (.int i) (.int j) S = some (.int (i.fdiv j), S) := if_pos h
theorem x_mod {i j : Int} (h : j ≠ 0) : gMod (.int i) (.int j) S = some (.int (i.fmod j), S) := if_pos h
theorem x_pow {i j : Int} (h : 0 ≤ j ∧ j ≤ 1000000 ∧ i.natAbs < 2 ^ 64) : gPow (.int i) (.int j) S = some (.int (i ^ j.toNat), S) := if_pos h
@[simp] theorem x_cmp {p : Int → Int → Bool} {i j : Int} : gCmp p (.int i) (.int j) S = some (.bl (p i j), S) := rfl
@[simp] theorem x_trub {k : Bool} : truD (.bl k) S = some k := rfl
@[simp] theorem x_trui {i : Int} : truD (.int i) S = some (i != 0) := rfl
@[simp] theorem x_trun : truD .non S = some false := rfl
@[simp] theorem x_isN : cIs .non .non S = some (.bl true, S) := rfl
@[simp] theorem x_isNt {xs : List D} : cIs (.tup xs) .non S = some (.bl false, S) := rfl
@[simp] theorem x_isNi {i : Int} : cIs (.int i) .non S = some (.bl false, S) := rfl
@[simp] theorem x_isnN : cIsNot .non .non S = some (.bl false, S) := rfl
@[simp] theorem x_isnNt {xs : List D} : cIsNot (.tup xs) .non S = some (.bl true, S) := rfl
@[simp] theorem x_isnNi {i : Int} : cIsNot (.int i) .non S = some (.bl true, S) := rfl
@[simp] theorem x_abs {i : Int} : bAbs [.int i] S = some (.int (i.natAbs : Int), S) := by
  show some (D.int (if i < 0 then -i else i), S) = _
  rw [show (if i < 0 then -i else i) = (i.natAbs : Int) by split <;> omega]
@[simp] theorem x_intb {k : Bool} : bInt [.bl k] S = some (.int (if k = true then 1 else 0), S) := rfl
@[simp] theorem x_inti {i : Int} : bInt [.int i] S = some (.int i, S) := rfl
@[simp] theorem x_max {i j : Int} : bMax [.int i, .int j] S = some (.int (max i j), S) := by
  show some (D.int (if j > i then j else i), S) = _
  rw [show (if j > i then j else i) = max i j by split <;> omega]
@[simp] theorem x_min {i j : Int} : bMin [.int i, .int j] S = some (.int (min i j), S) := by
  show some (D.int (if j < i then j else i), S) = _
  rw [show (if j < i then j else i) = min i j by split <;> omega]
@[simp] theorem x_lent {xs : List D} : bLen [.tup xs] S = some (.int xs.length, S) := rfl
@[simp] theorem x_tupU {xs : List D} : gTupU xs S = some (.tup xs, S) := rfl
@[simp] theorem x_lenU {xs : List D} : gLenU xs S = some (.int xs.length, S) := rfl
@[simp] theorem x_ixt {xs : List D} {i : Int} : gIx (.tup xs) (.int i) S = (atI xs i).map fun d => (d, S) := rfl
theorem gc_self (d : D) (S : Sto) : gc S.length d S = (d, S) := by
  unfold gc
  split <;> simp
theorem atI_n {α : Type} (xs : List α) (i : Nat) : atI xs (i : Int) = xs[i]? := by
  unfold atI ixN
  rw [if_pos (by omega)]
  by_cases h : i < xs.length
  · rw [if_pos (by omega)]; simp
  · rw [if_neg (by omega)]; simp; omega
@[simp] theorem atI_0 {α : Type} {x : α} {xs : List α} : atI (x :: xs) 0 = some x := atI_n (x :: xs) 0
@[simp] theorem atI_1 {α : Type} {x y : α} {xs : List α} : atI (x :: y :: xs) 1 = some y := atI_n (x :: y :: xs) 1
@[simp] theorem atI_2 {α : Type} {x y z : α} {xs : List α} : atI (x :: y :: z :: xs) 2 = some z := atI_n (x :: y :: z :: xs) 2
@[simp] theorem atI_3 {α : Type} {x y z u : α} {xs : List α} : atI (x :: y :: z :: u :: xs) 3 = some u := atI_n (x :: y :: z :: u :: xs) 3
/-! == -/
@[simp] theorem sh_int {i : Int} : SeqAt.shaped (.int i) = true := rfl
@[simp] theorem sh_bl {i : Bool} : SeqAt.shaped (.bool i) = true := rfl
@[simp] theorem sh_non : SeqAt.shaped .none = true := rfl
@[simp] theorem x_eqi {i j : Int} : cEq (.int i) (.int j) S = some (.bl (decide (i = j)), S) := by
  show (eqP S (.int i) (.int j)).map _ = _
  simp only [eqP, toPS, toP, Option.bind_some, sh_int, Bool.and_self, if_true, Option.map_some, PyData.eqv]
  rw [Bool.beq_eq_decide_eq]
@[simp] theorem x_nei {i j : Int} : cNe (.int i) (.int j) S = some (.bl (!decide (i = j)), S) := by
  show (eqP S (.int i) (.int j)).map _ = _
  simp only [eqP, toPS, toP, Option.bind_some, sh_int, Bool.and_self, if_true, Option.map_some, PyData.eqv]
  rw [Bool.beq_eq_decide_eq]
end
theorem srcOk_nil {S : Sto} : srcOk [] S := fun _ h => nomatch h
/-- a call, from the slots at its begin -/
theorem mk_ret {np ns : Nat} {body : SDen} {ds : List D} {S S' : Sto} {d : D} {env' : En} (e0 : En) (h : body e0 S = some (.rt d, env', S')) (hl : ds.length = np := by rfl) (he : ds.map some ++ List.replicate (ns - np) none = e0 := by rfl) : mkFn np ns body ds S = some (gc S.length d S') := by
  unfold mkFn
  rw [if_pos hl, he, h]
  rfl
theorem mk_same {np ns : Nat} {body : SDen} {ds : List D} {S : Sto} {d : D} {env' : En} (e0 : En) (h : body e0 S = some (.rt d, env', S)) (hl : ds.length = np := by rfl) (he : ds.map some ++ List.replicate (ns - np) none = e0 := by rfl) : mkFn np ns body ds S = some (d, S) := by
  rw [mk_ret e0 h hl he, gc_self]
/-! ### bounds -/
theorem log2_lt {n k : Nat} (h : n < 2 ^ k) (hk : 0 < k) : n.log2 < k := PySem.Flt.log2_lt_of hk h
theorem wideM_of {i j : Int} {a b : Nat} (ha : i.natAbs < 2 ^ a) (hb : j.natAbs < 2 ^ b) (h0 : 0 < a := by decide) (h1 : 0 < b := by decide) (h : a + b ≤ 1000000 := by decide) : wideM i j := wide_mul ha hb h0 h1 h
theorem mul_lt {i j : Int} {a b : Nat} (ha : i.natAbs < 2 ^ a) (hb : j.natAbs < 2 ^ b) : (i * j).natAbs < 2 ^ (a + b) := wide_lt ha hb
theorem add_lt {i j : Int} {a : Nat} (ha : i.natAbs < 2 ^ a) (hb : j.natAbs < 2 ^ a) : (i + j).natAbs < 2 ^ (a + 1) := by
  have := Int.natAbs_add_le i j
  rw [Nat.pow_succ]; omega
theorem sub_lt {i j : Int} {a : Nat} (ha : i.natAbs < 2 ^ a) (hb : j.natAbs < 2 ^ a) : (i - j).natAbs < 2 ^ (a + 1) := by
  have := Int.natAbs_sub_le i j
  rw [Nat.pow_succ]; omega
theorem lt_mono {n a b : Nat} (h : n < 2 ^ a) (hb : a ≤ b) : n < 2 ^ b := Nat.lt_of_lt_of_le h (Nat.pow_le_pow_right (by decide) hb)
/-! ### fractions -/
/-- a fraction as the program has it -/
def rq (q : Rat) : D := .tup [.int q.num, .int q.den]
theorem fmod_nat (x y : Nat) : Int.fmod (x : Int) (y : Int) = ((x % y : Nat) : Int) := by
  rw [Int.fmod_eq_emod_of_nonneg _ (by omega)]; rfl
/-- the greatest common part, by turns -/
theorem gcd_while {t : TDen} {b : SDen} (mk : Int → Int → En) (ht : ∀ (x y : Nat) (S : Sto), t (mk x y) S = some (decide (y ≠ 0), S)) (hb : ∀ (x y : Nat) (S : Sto), y ≠ 0 → b (mk x y) S = some (.nx, mk y ((x % y : Nat) : Int), S)) (S : Sto) :
    ∀ (y x : Nat), sWhile t b (mk x y) S = some (.nx, mk (Nat.gcd x y : Nat) 0, S) := by
  intro y
  induction y using Nat.strongRecOn with
  | _ y ih =>
    intro x
    rw [sWhile_eq, ht]
    simp only [Option.bind_some]
    by_cases hy : y = 0
    · subst hy
      simp
    · rw [decide_eq_true hy, if_pos rfl, hb x y S hy]
      simp only [Option.bind_some]
      rw [ih (x % y) (Nat.mod_lt _ (by omega)) y]
      rw [Nat.gcd_comm y, ← Nat.gcd_rec, Nat.gcd_comm]
theorem gcd_pos {a b : Int} (hb : b ≠ 0) : 0 < Int.gcd a b := by
  unfold Int.gcd
  exact Nat.gcd_pos_of_pos_right _ (by omega)
theorem frac_num {a b : Int} (hb : b ≠ 0) : a.fdiv (if b < 0 then -(Int.gcd a b : Int) else (Int.gcd a b : Int)) = (Rat.divInt a b).num ∧ b.fdiv (if b < 0 then -(Int.gcd a b : Int) else (Int.gcd a b : Int)) = ((Rat.divInt a b).den : Int) := by
  have hg : (Int.gcd a b : Int) ≠ 0 := by
    have := gcd_pos (a := a) hb
    omega
  have h1 : (Int.gcd a b : Int) ∣ a := Int.gcd_dvd_left ..
  have h2 : (Int.gcd a b : Int) ∣ b := Int.gcd_dvd_right ..
  have hn := Rat.num_divInt a b
  have hd := Rat.den_divInt a b
  rw [if_neg hb, Int.gcd_comm b a] at hd
  rw [Int.gcd_comm b a] at hn
  rw [hn, hd]
  generalize hG : Int.gcd a b = g at *
  obtain ⟨x, rfl⟩ := h1
  obtain ⟨y, rfl⟩ := h2
  have hg0 : 0 < (g : Int) := by omega
  have hyn : y ≠ 0 := by rintro rfl; simp at hb
  have e0 : ∀ z : Int, (g : Int) * z / (g : Int) = z := fun z => Int.mul_ediv_cancel_left z hg
  by_cases hneg : (g : Int) * y < 0
  · rw [if_pos hneg]
    have hy : y < 0 := by
      rcases Int.lt_or_le y 0 with h | h
      · exact h
      · have := Int.mul_nonneg (Int.le_of_lt hg0) h; omega
    have es : ((g : Int) * y).sign = -1 := Int.sign_eq_neg_one_of_neg hneg
    have ef : ∀ z : Int, ((g : Int) * z).fdiv (-(g : Int)) = -z := fun z => by
      rw [show (g : Int) * z = (-(g : Int)) * (-z) by rw [Int.neg_mul_neg]]
      rw [Int.mul_fdiv_cancel_left _ (by omega)]
    rw [ef, ef, es]
    constructor
    · rw [show (-1 : Int) * ((g : Int) * x) = (g : Int) * (-x) by rw [Int.neg_one_mul, Int.mul_neg], e0]
    · rw [Int.natAbs_mul]
      simp only [Int.natAbs_natCast]
      rw [Nat.mul_div_cancel_left _ (by omega)]
      omega
  · rw [if_neg hneg]
    have hy : 0 < y := by
      rcases Int.lt_or_le 0 y with h | h
      · exact h
      · have h3 : y < 0 := by omega
        have := Int.mul_neg_of_pos_of_neg hg0 h3; omega
    have es : ((g : Int) * y).sign = 1 := Int.sign_eq_one_of_pos (Int.mul_pos hg0 hy)
    have ef : ∀ z : Int, ((g : Int) * z).fdiv (g : Int) = z := fun z => Int.mul_fdiv_cancel_left _ hg
    rw [ef, ef, es]
    constructor
    · rw [Int.one_mul, e0]
    · rw [Int.natAbs_mul]
      simp only [Int.natAbs_natCast]
      rw [Nat.mul_div_cancel_left _ (by omega)]
      omega
theorem frac_wide {a b : Int} (hb : b ≠ 0) (h : b.natAbs < 2 ^ 9000) : wideD (if b < 0 then -(Int.gcd a b : Int) else (Int.gcd a b : Int)) := by
  have hg := gcd_pos (a := a) hb
  have h2 : Int.gcd a b ≤ b.natAbs := by
    have : (Int.gcd a b) ∣ b.natAbs := Int.gcd_dvd_natAbs_right a b
    exact Nat.le_of_dvd (by omega) this
  have h3 : (if b < 0 then -(Int.gcd a b : Int) else (Int.gcd a b : Int)).natAbs = Int.gcd a b := by split <;> simp
  refine ⟨by split <;> omega, ?_⟩
  rw [h3]
  exact log2_lt (Nat.lt_of_le_of_lt h2 h) (by decide)
theorem num_le {a b : Int} (hb : b ≠ 0) : (Rat.divInt a b).num.natAbs ≤ a.natAbs ∧ (Rat.divInt a b).den ≤ b.natAbs := by
  constructor
  · rw [Rat.num_divInt]
    have : ((b.sign * a) / (b.gcd a : Int)).natAbs ≤ (b.sign * a).natAbs := Int.natAbs_ediv_le_natAbs _ _
    rw [Int.natAbs_mul, Int.natAbs_sign_of_ne_zero hb, Nat.one_mul] at this
    exact this
  · rw [Rat.den_divInt, if_neg hb]
    exact Nat.div_le_self _ _
end ML

namespace ML
open PySem PySem.Spec PyProof.Rows L2
/-! ### fractions: the functions that all texts have -/
def IsGcd (F : Fn) : Prop := ∀ (a b : Int) (S : Sto), F [.int a, .int b] S = some (.int (Int.gcd a b : Int), S)
def IsFrac (F : Fn) : Prop := ∀ (a b : Int) (S : Sto), b ≠ 0 → b.natAbs < 2 ^ 9000 → F [.int a, .int b] S = some (rq (Rat.divInt a b), S)
noncomputable def Kgcd1 : Fn := mkFn 2 2 (sCons (sPar 0 1 (aCons (eCall bAbs (aCons (eVar 0) aNil)) (aCons (eCall bAbs (aCons (eVar 1) aNil)) aNil))) (sCons (sWhile (tTru (eVar 1)) (sCons (sPar 0 1 (aCons (eVar 1) (aCons (eOp gMod (eVar 0) (eVar 1)) aNil))) sNil)) (sCons (sRet (eVar 0)) sNil)))
def Kfrac (F : Fn) : Fn := mkFn 2 3 (sCons (sAsg (eCall F (aCons (eVar 0) (aCons (eVar 1) aNil))) (ML.gName 2)) (sCons (sIf (asB (eOp cLt (eVar 1) (eC (.int 0)))) (sCons (sAsg (eUn gNeg (eVar 2)) (ML.gName 2)) sNil) sNil) (sCons (sRet (eTup (aCons (eOp gFdiv (eVar 0) (eVar 2)) (aCons (eOp gFdiv (eVar 1) (eVar 2)) aNil)))) sNil)))
def en2 (x y : Int) : En := [some (.int x), some (.int y)]
theorem gcd_turn (x y : Nat) (S : Sto) (h : y ≠ 0) : (sCons (sPar 0 1 (aCons (eVar 1) (aCons (eOp gMod (eVar 0) (eVar 1)) aNil))) sNil) (en2 x y) S = some (.nx, en2 y ((x % y : Nat) : Int), S) := by
  have : ((y : Int)) ≠ 0 := by omega
  simp [en2, x_mod this, fmod_nat]
theorem gcd1 : IsGcd Kgcd1 := by
  intro a b S
  refine mk_same (env' := en2 (Int.gcd a b) 0) [some (.int a), some (.int b)] ?_
  have z := gcd_while (t := tTru (eVar 1)) en2 (fun x y S => by by_cases h : y = 0 <;> simp [en2, h]) (fun x y S h => gcd_turn x y S h) S b.natAbs a.natAbs
  simp only [en2] at z
  simp [z, en2, Int.gcd]
theorem frac_ok {F : Fn} (hF : IsGcd F) : IsFrac (Kfrac F) := by
  intro a b S hb hs
  have hw := frac_wide (a := a) hb hs
  obtain ⟨n1, n2⟩ := frac_num (a := a) hb
  by_cases h : b < 0
  · rw [if_pos h] at hw n1 n2
    refine mk_same (env' := [some (.int a), some (.int b), some (.int (-(Int.gcd a b : Int)))]) [some (.int a), some (.int b), none] ?_
    simp [hF a b S, h, x_fdiv hw, n1, n2, rq]
  · rw [if_neg h] at hw n1 n2
    refine mk_same (env' := [some (.int a), some (.int b), some (.int ((Int.gcd a b : Int)))]) [some (.int a), some (.int b), none] ?_
    simp [hF a b S, h, x_fdiv hw, n1, n2, rq]
/-! ### the deck -/
structure Dk (m : Nat) (rest : List Ob) (S : Sto) : Prop where
  ex : ∃ (ns parts : List Int) (i j : Int), S = .rol (ns.map .int) :: .lst (parts.map .int) :: .lst [.loc 0, .loc 1, .int i, .int j] :: rest ∧ ns.length ≤ 63 ∧ 0 ≤ i ∧ 0 ≤ j ∧ j ≤ m
theorem Dk.mono {m n : Nat} {rest : List Ob} {S : Sto} (h : Dk m rest S) (hl : m ≤ n) : Dk n rest S := by
  obtain ⟨ns, parts, i, j, e, a, b, c, d⟩ := h.ex
  exact ⟨ns, parts, i, j, e, a, b, c, by omega⟩
theorem Dk.len {m : Nat} {rest : List Ob} {S : Sto} (h : Dk m rest S) : S.length = rest.length + 3 := by
  obtain ⟨ns, parts, i, j, e, _⟩ := h.ex
  rw [e]; simp
@[simp] theorem lsAt_rol {xs : List D} {S : Sto} {l : Nat} (h : S[l]? = some (.rol xs)) : lsAt S l = some xs := by unfold lsAt; rw [h]; rfl
@[simp] theorem lsAt_lst {xs : List D} {S : Sto} {l : Nat} (h : S[l]? = some (.lst xs)) : lsAt S l = some xs := by unfold lsAt; rw [h]; rfl
@[simp] theorem x_lenl {S : Sto} {l : Nat} : bLen [.loc l] S = (lsAt S l).map fun xs => (.int xs.length, S) := rfl
@[simp] theorem x_ixl {S : Sto} {l : Nat} {i : Int} : gIx (.loc l) (.int i) S = (lsAt S l).bind fun xs => (atI xs i).map fun d => (d, S) := rfl
@[simp] theorem x_put {S : Sto} {env : En} {fo fi : Den} {d : D} : gPut fo fi d env S = (fo env S).bind fun p => (fi env p.2).bind fun q => match p.1, q.1 with
  | .loc l, .int i => match q.2[l]? with
    | some (.lst xs) => (ixN xs.length i).map fun j => (env, q.2.set l (.lst (xs.set j d)))
    | _ => none
  | _, _ => none := rfl
/-- the store with a deck -/
def dkS (ns parts : List Int) (i j : Int) (rest : List Ob) : Sto := .rol (ns.map .int) :: .lst (parts.map .int) :: .lst [.loc 0, .loc 1, .int i, .int j] :: rest
@[simp] theorem dk_0 {ns parts : List Int} {i j : Int} {rest : List Ob} : lsAt (dkS ns parts i j rest) 0 = some (ns.map .int) := rfl
@[simp] theorem dk_1 {ns parts : List Int} {i j : Int} {rest : List Ob} : lsAt (dkS ns parts i j rest) 1 = some (parts.map .int) := rfl
@[simp] theorem dk_2 {ns parts : List Int} {i j : Int} {rest : List Ob} : lsAt (dkS ns parts i j rest) 2 = some [.loc 0, .loc 1, .int i, .int j] := rfl
@[simp] theorem dk_g1 {ns parts : List Int} {i j : Int} {rest : List Ob} : (dkS ns parts i j rest)[1]? = some (.lst (parts.map .int)) := rfl
@[simp] theorem dk_g2 {ns parts : List Int} {i j : Int} {rest : List Ob} : (dkS ns parts i j rest)[2]? = some (.lst [.loc 0, .loc 1, .int i, .int j]) := rfl
@[simp] theorem dk_s1 {ns parts ps : List Int} {i j : Int} {rest : List Ob} : List.set (dkS ns parts i j rest) 1 (.lst (ps.map .int)) = dkS ns ps i j rest := rfl
@[simp] theorem dk_s2 {ns parts : List Int} {i j i' j' : Int} {rest : List Ob} : List.set (dkS ns parts i j rest) 2 (.lst [.loc 0, .loc 1, .int i', .int j']) = dkS ns parts i' j' rest := rfl
section
variable {k : Int}
end
@[simp] theorem x_lc {it : IDen} {g : GDen} {t : TDen} {f : Den} {vs : List Nat} {env : En} {S : Sto} : uLc it g t f vs env S = (it env S).bind fun p => lcRun p.1.src g t f (wipeE env vs) p.1.ds [] p.2 := rfl
@[simp] theorem x_iseqL {f : Den} {env : En} {S : Sto} : iSeq f env S = (f env S).bind fun p => match p.1 with
  | .tup ds => some (⟨ds, []⟩, p.2)
  | .loc l => match p.2[l]? with
    | some (.lst ds) => some (⟨ds, [(l, .lst ds)]⟩, p.2)
    | some (.rol ds) => some (⟨ds, [(l, .rol ds)]⟩, p.2)
    | _ => none
  | _ => none := rfl
end ML

namespace ML
open PySem PySem.Spec PyProof.Rows L2
/-! ### kinds -/
@[simp] theorem kit_tt : kitB "tuple" "tuple" = some true := by decide +kernel
@[simp] theorem kit_it : kitB "int" "tuple" = some false := by decide +kernel
@[simp] theorem kit_bt : kitB "bool" "tuple" = some false := by decide +kernel
@[simp] theorem kit_st : kitB "str" "tuple" = some false := by decide +kernel
@[simp] theorem kit_lt : kitB "list" "tuple" = some false := by decide +kernel
@[simp] theorem kit_dt : kitB "dict" "tuple" = some false := by decide +kernel
@[simp] theorem kit_nt : kitB "NoneType" "tuple" = some false := by decide +kernel
@[simp] theorem kit_ii : kitB "int" "int" = some true := by decide +kernel
@[simp] theorem kit_bi : kitB "bool" "int" = some true := by decide +kernel
@[simp] theorem kit_ti : kitB "tuple" "int" = some false := by decide +kernel
@[simp] theorem kit_si : kitB "str" "int" = some false := by decide +kernel
@[simp] theorem kit_li : kitB "list" "int" = some false := by decide +kernel
@[simp] theorem kit_ni : kitB "NoneType" "int" = some false := by decide +kernel
@[simp] theorem kit_ib : kitB "int" "bool" = some false := by decide +kernel
@[simp] theorem kit_bb : kitB "bool" "bool" = some true := by decide +kernel
@[simp] theorem kit_tb : kitB "tuple" "bool" = some false := by decide +kernel
@[simp] theorem kit_sb : kitB "str" "bool" = some false := by decide +kernel
@[simp] theorem kit_nb : kitB "NoneType" "bool" = some false := by decide +kernel
@[simp] theorem kit_ss : kitB "str" "str" = some true := by decide +kernel
@[simp] theorem kit_is : kitB "int" "str" = some false := by decide +kernel
@[simp] theorem kit_bs : kitB "bool" "str" = some false := by decide +kernel
@[simp] theorem kit_ts : kitB "tuple" "str" = some false := by decide +kernel
@[simp] theorem kit_ns : kitB "NoneType" "str" = some false := by decide +kernel
@[simp] theorem kit_tl : kitB "tuple" "list" = some false := by decide +kernel
@[simp] theorem kit_ll : kitB "list" "list" = some true := by decide +kernel
@[simp] theorem kit_il : kitB "int" "list" = some false := by decide +kernel
@[simp] theorem kit_nl : kitB "NoneType" "list" = some false := by decide +kernel
@[simp] theorem kit_sl : kitB "str" "list" = some false := by decide +kernel
@[simp] theorem kit_bl : kitB "bool" "list" = some false := by decide +kernel
section
variable {S : Sto} {c : String}
@[simp] theorem ty_i {i : Int} : tyN S (.int i) = some "int" := rfl
@[simp] theorem ty_b {i : Bool} : tyN S (.bl i) = some "bool" := rfl
@[simp] theorem ty_s {i : Str} : tyN S (.str i) = some "str" := rfl
@[simp] theorem ty_t {i : List D} : tyN S (.tup i) = some "tuple" := rfl
@[simp] theorem ty_n : tyN S .non = some "NoneType" := rfl
@[simp] theorem x_isi {d : D} : bIsi [d, .ty c] S = (tyN S d).bind fun t => (kitB t c).map fun b => (.bl b, S) := by
  cases d <;> rfl
/-! fractions alike -/
theorem sh_rq {q : Rat} : SeqAt.shaped (.tuple [.int q.num, .int q.den]) = true := rfl
theorem eq_rq {q r : Rat} : eqP S (rq q) (rq r) = some (decide (q = r)) := by
  simp only [eqP, rq, toPS, toP, toPL, Option.bind_some, Option.map_some, sh_rq, Bool.and_self, if_true, PyData.eqv, PyData.eqvAll, Bool.and_true]
  congr 1
  rw [Bool.eq_iff_iff]
  simp only [Bool.and_eq_true, beq_iff_eq, decide_eq_true_eq]
  constructor
  · rintro ⟨a, b⟩
    exact Rat.ext a (by omega)
  · rintro rfl; exact ⟨rfl, rfl⟩
@[simp] theorem x_eqq {q r : Rat} : cEq (rq q) (rq r) S = some (.bl (decide (q = r)), S) := by
  show (eqP S (rq q) (rq r)).map _ = _
  rw [eq_rq]; rfl
@[simp] theorem x_neq {q r : Rat} : cNe (rq q) (rq r) S = some (.bl (!decide (q = r)), S) := by
  show (eqP S (rq q) (rq r)).map _ = _
  rw [eq_rq]; rfl
@[simp] theorem x_eqU {neg : Bool} {f g : ADen} {env : En} : eEqU neg f g env S = (f env S).bind fun p => (g env p.2).bind fun q => (toPL p.1).bind fun x => (toPL q.1).bind fun y =>
  if SeqAt.shaped (.list x) && SeqAt.shaped (.list y) then some (.bl (if neg = true then !PyData.eqv (.list x) (.list y) else PyData.eqv (.list x) (.list y)), q.2) else none := rfl
end
end ML

namespace ML
open PySem PySem.Spec PyProof.Rows L2
/-! ### sums and products of fractions -/
theorem ix_q0 {q : Rat} {S : Sto} : gIx (rq q) (.int 0) S = some (.int q.num, S) := rfl
theorem ix_q1 {q : Rat} {S : Sto} : gIx (rq q) (.int 1) S = some (.int q.den, S) := rfl
theorem den_ne (q : Rat) : ((q.den : Nat) : Int) ≠ 0 := by have := q.den_pos; omega
/-- both parts below 2 ^ k -/
def Sz (k : Nat) (q : Rat) : Prop := q.num.natAbs < 2 ^ k ∧ q.den < 2 ^ k
theorem Sz.mono {k l : Nat} {q : Rat} (h : Sz k q) (hl : k ≤ l) : Sz l q := ⟨lt_mono h.1 hl, lt_mono h.2 hl⟩
theorem sz_div {a b : Int} {k : Nat} (hb : b ≠ 0) (h1 : a.natAbs < 2 ^ k) (h2 : b.natAbs < 2 ^ k) : Sz k (Rat.divInt a b) := by
  have := num_le (a := a) hb
  exact ⟨by omega, by omega⟩
theorem q_eq (q : Rat) : q = Rat.divInt q.num q.den := (Rat.num_divInt_den q).symm
theorem add_div (q r : Rat) : q + r = Rat.divInt (q.num * r.den + r.num * q.den) (q.den * r.den) := by
  have h := Rat.divInt_add_divInt q.num r.num (den_ne q) (den_ne r)
  rw [← q_eq, ← q_eq] at h
  exact h
theorem sub_div (q r : Rat) : q - r = Rat.divInt (q.num * r.den - r.num * q.den) (q.den * r.den) := by
  have h := Rat.divInt_sub_divInt q.num r.num (den_ne q) (den_ne r)
  rw [← q_eq, ← q_eq] at h
  exact h
theorem mul_div (q r : Rat) : q * r = Rat.divInt (q.num * r.num) (q.den * r.den) := by
  have h := Rat.divInt_mul_divInt q.num r.num (d₁ := q.den) (d₂ := r.den)
  rw [← q_eq, ← q_eq] at h
  exact h
theorem inv_div (r : Rat) : r⁻¹ = Rat.divInt r.den r.num := by
  have h := Rat.inv_divInt r.num r.den
  rw [← q_eq] at h
  exact h
theorem div_div (q r : Rat) : q / r = Rat.divInt (q.num * r.den) (q.den * r.num) := by
  rw [Rat.div_def, inv_div]
  conv => lhs; rw [q_eq q]
  exact Rat.divInt_mul_divInt q.num r.den (d₁ := q.den) (d₂ := r.num)
theorem nat_lt {n k : Nat} (h : n < 2 ^ k) : ((n : Nat) : Int).natAbs < 2 ^ k := by simpa using h
theorem sz_add {q r : Rat} {a b : Nat} (hq : Sz a q) (hr : Sz b r) : Sz (a + b + 1) (q + r) := by
  rw [add_div]
  refine sz_div (Int.mul_ne_zero (den_ne q) (den_ne r)) ?_ ?_
  · have h1 := mul_lt hq.1 (nat_lt hr.2)
    have h2 := mul_lt hr.1 (nat_lt hq.2)
    rw [Nat.add_comm b a] at h2
    exact add_lt h1 h2
  · exact lt_mono (mul_lt (nat_lt hq.2) (nat_lt hr.2)) (by omega)
theorem sz_sub {q r : Rat} {a b : Nat} (hq : Sz a q) (hr : Sz b r) : Sz (a + b + 1) (q - r) := by
  rw [sub_div]
  refine sz_div (Int.mul_ne_zero (den_ne q) (den_ne r)) ?_ ?_
  · have h1 := mul_lt hq.1 (nat_lt hr.2)
    have h2 := mul_lt hr.1 (nat_lt hq.2)
    rw [Nat.add_comm b a] at h2
    exact sub_lt h1 h2
  · exact lt_mono (mul_lt (nat_lt hq.2) (nat_lt hr.2)) (by omega)
theorem sz_mul {q r : Rat} {a b : Nat} (hq : Sz a q) (hr : Sz b r) : Sz (a + b) (q * r) := by
  rw [mul_div]
  exact sz_div (Int.mul_ne_zero (den_ne q) (den_ne r)) (mul_lt hq.1 hr.1) (mul_lt (nat_lt hq.2) (nat_lt hr.2))
theorem num_ne {r : Rat} (h : r ≠ 0) : r.num ≠ 0 := fun e => h (Rat.num_eq_zero.mp e)
theorem sz_over {q r : Rat} {a b : Nat} (hq : Sz a q) (hr : Sz b r) (h : r ≠ 0) : Sz (a + b) (q / r) := by
  rw [div_div]
  exact sz_div (Int.mul_ne_zero (den_ne q) (num_ne h)) (mul_lt hq.1 (nat_lt hr.2)) (mul_lt (nat_lt hq.2) hr.1)
theorem sz_neg {q : Rat} {a : Nat} (h : Sz a q) : Sz a (-q) := ⟨by rw [Rat.neg_num, Int.natAbs_neg]; exact h.1, by rw [Rat.neg_den]; exact h.2⟩
theorem rq_neg {q : Rat} : rq (-q) = .tup [.int (-q.num), .int q.den] := by rw [rq, Rat.neg_num, Rat.neg_den]
theorem sz_0 {k : Nat} (h : 0 < k := by decide) : Sz k 0 := by
  have : 1 < 2 ^ k := Nat.one_lt_two_pow (by omega)
  exact ⟨by show 0 < 2 ^ k; omega, this⟩
theorem sz_1 {k : Nat} (h : 0 < k := by decide) : Sz k 1 := by
  have : 1 < 2 ^ k := Nat.one_lt_two_pow (by omega)
  exact ⟨this, this⟩
theorem sz_int {i : Int} {k : Nat} (h : i.natAbs < 2 ^ k) (hk : 0 < k := by decide) : Sz k (i : Rat) := by
  have : 1 < 2 ^ k := Nat.one_lt_two_pow (by omega)
  exact ⟨h, this⟩
noncomputable def Kplus (F : Fn) : Fn := mkFn 2 2 (sCons (sRet (eCall F (aCons (eOp gAdd (eOp gMul (eOp gIx (eVar 0) (eC (.int 0))) (eOp gIx (eVar 1) (eC (.int 1)))) (eOp gMul (eOp gIx (eVar 1) (eC (.int 0))) (eOp gIx (eVar 0) (eC (.int 1))))) (aCons (eOp gMul (eOp gIx (eVar 0) (eC (.int 1))) (eOp gIx (eVar 1) (eC (.int 1)))) aNil)))) sNil)
noncomputable def Kminus (F : Fn) : Fn := mkFn 2 2 (sCons (sRet (eCall F (aCons (eOp gSub (eOp gMul (eOp gIx (eVar 0) (eC (.int 0))) (eOp gIx (eVar 1) (eC (.int 1)))) (eOp gMul (eOp gIx (eVar 1) (eC (.int 0))) (eOp gIx (eVar 0) (eC (.int 1))))) (aCons (eOp gMul (eOp gIx (eVar 0) (eC (.int 1))) (eOp gIx (eVar 1) (eC (.int 1)))) aNil)))) sNil)
noncomputable def Ktimes (F : Fn) : Fn := mkFn 2 2 (sCons (sRet (eCall F (aCons (eOp gMul (eOp gIx (eVar 0) (eC (.int 0))) (eOp gIx (eVar 1) (eC (.int 0)))) (aCons (eOp gMul (eOp gIx (eVar 0) (eC (.int 1))) (eOp gIx (eVar 1) (eC (.int 1)))) aNil)))) sNil)
noncomputable def Kover (F : Fn) : Fn := mkFn 2 2 (sCons (sRet (eCall F (aCons (eOp gMul (eOp gIx (eVar 0) (eC (.int 0))) (eOp gIx (eVar 1) (eC (.int 1)))) (aCons (eOp gMul (eOp gIx (eVar 0) (eC (.int 1))) (eOp gIx (eVar 1) (eC (.int 0)))) aNil)))) sNil)
noncomputable def Ksign : Fn := mkFn 1 1 (sCons (sRet (eOp gSub (eCall bInt (aCons (eOp cGt (eOp gIx (eVar 0) (eC (.int 0))) (eC (.int 0))) aNil)) (eCall bInt (aCons (eOp cLt (eOp gIx (eVar 0) (eC (.int 0))) (eC (.int 0))) aNil)))) sNil)
/-- the function of two fractions that is told by f, of parts below 2 ^ 4000 -/
def IsQ2 (F : Fn) (f : Rat → Rat → Rat) : Prop := ∀ (q r : Rat) (S : Sto), Sz 4000 q → Sz 4000 r → F [rq q, rq r] S = some (rq (f q r), S)
theorem fits (q r : Rat) (hq : Sz 4000 q) (hr : Sz 4000 r) : (((q.den : Nat) : Int) * ((r.den : Nat) : Int)).natAbs < 2 ^ 9000 := lt_mono (mul_lt (nat_lt hq.2) (nat_lt hr.2)) (by decide)
theorem plus_ok {F : Fn} (hF : IsFrac F) : IsQ2 (Kplus F) (· + ·) := by
  intro q r S hq hr
  have w1 : wideM q.num r.den := wideM_of hq.1 (nat_lt hr.2)
  have w2 : wideM r.num q.den := wideM_of hr.1 (nat_lt hq.2)
  have w3 : wideM q.den r.den := wideM_of (nat_lt hq.2) (nat_lt hr.2)
  have f := hF (q.num * r.den + r.num * q.den) _ S (Int.mul_ne_zero (den_ne q) (den_ne r)) (fits q r hq hr)
  refine mk_same [some (rq q), some (rq r)] (env' := [some (rq q), some (rq r)]) ?_
  simp [ix_q0, ix_q1, x_mul w1, x_mul w2, x_mul w3, f, add_div]
theorem minus_ok {F : Fn} (hF : IsFrac F) : IsQ2 (Kminus F) (· - ·) := by
  intro q r S hq hr
  have w1 : wideM q.num r.den := wideM_of hq.1 (nat_lt hr.2)
  have w2 : wideM r.num q.den := wideM_of hr.1 (nat_lt hq.2)
  have w3 : wideM q.den r.den := wideM_of (nat_lt hq.2) (nat_lt hr.2)
  have f := hF (q.num * r.den - r.num * q.den) _ S (Int.mul_ne_zero (den_ne q) (den_ne r)) (fits q r hq hr)
  refine mk_same [some (rq q), some (rq r)] (env' := [some (rq q), some (rq r)]) ?_
  simp [ix_q0, ix_q1, x_mul w1, x_mul w2, x_mul w3, f, sub_div]
theorem times_ok {F : Fn} (hF : IsFrac F) : IsQ2 (Ktimes F) (· * ·) := by
  intro q r S hq hr
  have w1 : wideM q.num r.num := wideM_of hq.1 hr.1
  have w3 : wideM q.den r.den := wideM_of (nat_lt hq.2) (nat_lt hr.2)
  have f := hF (q.num * r.num) _ S (Int.mul_ne_zero (den_ne q) (den_ne r)) (fits q r hq hr)
  refine mk_same [some (rq q), some (rq r)] (env' := [some (rq q), some (rq r)]) ?_
  simp [ix_q0, ix_q1, x_mul w1, x_mul w3, f, mul_div]
theorem over_ok {F : Fn} (hF : IsFrac F) (q r : Rat) (S : Sto) (hq : Sz 4000 q) (hr : Sz 4000 r) (h : r ≠ 0) : Kover F [rq q, rq r] S = some (rq (q / r), S) := by
  have w1 : wideM q.num r.den := wideM_of hq.1 (nat_lt hr.2)
  have w3 : wideM q.den r.num := wideM_of (nat_lt hq.2) hr.1
  have f := hF (q.num * r.den) _ S (Int.mul_ne_zero (den_ne q) (num_ne h)) (lt_mono (mul_lt (nat_lt hq.2) hr.1) (by decide))
  refine mk_same [some (rq q), some (rq r)] (env' := [some (rq q), some (rq r)]) ?_
  simp [ix_q0, ix_q1, x_mul w1, x_mul w3, f, div_div]
def sgn (q : Rat) : Int := (if 0 < q.num then 1 else 0) - (if q.num < 0 then 1 else 0)
theorem sign_ok (q : Rat) (S : Sto) : Ksign [rq q] S = some (.int (sgn q), S) := by
  refine mk_same [some (rq q)] (env' := [some (rq q)]) ?_
  simp [ix_q0, sgn]
/-! ### draws of fractions -/
end ML

namespace ML
open PySem PySem.Spec PyProof.Rows L2
section
variable {env : En} {S : Sto}
theorem x_for {it : IDen} {g : GDen} {b : SDen} : sFor it g b env S = (it env S).bind fun p => fRun p.1.src g b p.1.ds env p.2 := rfl
@[simp] theorem x_range1 {j : Int} {f : Den} (hf : f env S = some (.int j, S)) (h : -(2 ^ 62) ≤ j ∧ j < 2 ^ 62) : iRange1 f env S = some (⟨rngs 0 j.toNat, []⟩, S) := by
  unfold iRange1
  rw [hf]
  simp only [Option.bind_some]
  rw [if_pos h]
end
/-! ### points -/
def rp (a b c : Rat) : D := .tup [rq a, rq b, rq c]
noncomputable def Kdot (Fp Ft : Fn) : Fn := mkFn 2 8 (sCons (sAsg (eTup (aCons (eVar 0) (aCons (eVar 1) aNil))) (ML.gTup 2 (ML.gCons (ML.gTup 3 (ML.gCons (ML.gName 2) (ML.gCons (ML.gName 3) (ML.gCons (ML.gName 4) ML.gNil)))) (ML.gCons (ML.gTup 3 (ML.gCons (ML.gName 5) (ML.gCons (ML.gName 6) (ML.gCons (ML.gName 7) ML.gNil)))) ML.gNil)))) (sCons (sRet (eCall Fp (aCons (eCall Fp (aCons (eCall Ft (aCons (eVar 2) (aCons (eVar 5) aNil))) (aCons (eCall Ft (aCons (eVar 3) (aCons (eVar 6) aNil))) aNil))) (aCons (eCall Ft (aCons (eVar 4) (aCons (eVar 7) aNil))) aNil)))) sNil))
def dotQ (a b c x y z : Rat) : Rat := a * x + b * y + c * z
def IsDot (F : Fn) : Prop := ∀ (a b c x y z : Rat) (S : Sto), Sz 600 a → Sz 600 b → Sz 600 c → Sz 600 x → Sz 600 y → Sz 600 z → F [rp a b c, rp x y z] S = some (rq (dotQ a b c x y z), S)
theorem dot_ok {Fp Ft : Fn} (hp : IsQ2 Fp (· + ·)) (ht : IsQ2 Ft (· * ·)) : IsDot (Kdot Fp Ft) := by
  intro a b c x y z S ha hb hc hx hy hz
  have t1 := ht a x S (ha.mono (by decide)) (hx.mono (by decide))
  have t2 := ht b y S (hb.mono (by decide)) (hy.mono (by decide))
  have t3 := ht c z S (hc.mono (by decide)) (hz.mono (by decide))
  have p1 := hp (a * x) (b * y) S ((sz_mul ha hx).mono (by decide)) ((sz_mul hb hy).mono (by decide))
  have p2 := hp (a * x + b * y) (c * z) S ((sz_add (sz_mul ha hx) (sz_mul hb hy)).mono (by decide)) ((sz_mul hc hz).mono (by decide))
  refine mk_same [some (rp a b c), some (rp x y z), none, none, none, none, none, none] (env' := [some (rp a b c), some (rp x y z), some (rq a), some (rq b), some (rq c), some (rq x), some (rq y), some (rq z)]) ?_
  simp [rp, t1, t2, t3, p1, p2, dotQ]
end ML

namespace ML
open PySem PySem.Spec PyProof.Rows L2
/-! ### plain data, alike or not -/
mutual
def pd : Nat → D → Bool
  | _, .int _ => true
  | _, .non => true
  | _, .str x => (PyData.str x).canLay0
  | n, .tup ds => match n with
    | 0 => false
    | m + 1 => pdL m ds
  | _, _ => false
def pdL : Nat → List D → Bool
  | _, [] => true
  | n, d :: ds => pd n d && pdL n ds
end
mutual
theorem pd_toP : ∀ (d : D) (n : Nat), pd n d = true → ∃ p, toP d = some p ∧ p.canLay0 = true ∧ p.depth ≤ n + 1
  | .int i, n, h => ⟨_, rfl, rfl, by simp [PyData.depth]⟩
  | .non, n, h => ⟨_, rfl, rfl, by simp [PyData.depth]⟩
  | .str x, n, h => ⟨_, rfl, h, by simp [PyData.depth]⟩
  | .tup ds, 0, h => by cases h
  | .tup ds, n + 1, h => by
    obtain ⟨ps, h1, h2, h3⟩ := pd_toPL ds n (by simpa only [pd] using h)
    exact ⟨.tuple ps, by simp only [toP, h1, Option.map_some], h2, by simp only [PyData.depth]; omega⟩
  | .bl _, n, h => by cases n <;> cases h
  | .loc _, n, h => by cases n <;> cases h
  | .ty _, n, h => by cases n <;> cases h
  | .fn _, n, h => by cases n <;> cases h
theorem pd_toPL : ∀ (ds : List D) (n : Nat), pdL n ds = true → ∃ ps, toPL ds = some ps ∧ PyData.canLayAll0 ps = true ∧ PyData.depthAll ps ≤ n + 1
  | [], n, h => ⟨[], rfl, rfl, by simp [PyData.depthAll]⟩
  | d :: ds, n, h => by
    simp only [pdL, Bool.and_eq_true] at h
    obtain ⟨p, a1, a2, a3⟩ := pd_toP d n h.1
    obtain ⟨ps, b1, b2, b3⟩ := pd_toPL ds n h.2
    exact ⟨p :: ps, by simp only [toPL, a1, b1, Option.bind_some, Option.map_some], by simp only [PyData.canLayAll0, a2, b2, Bool.and_self], by simp only [PyData.depthAll]; omega⟩
end
mutual
theorem pd_eqv : ∀ (d e : D) (n m : Nat) (p q : PyData), pd n d = true → pd m e = true → toP d = some p → toP e = some q → (PyData.eqv p q = true ↔ d = e)
  | .tup ds, .tup es, n + 1, m + 1, p, q, h1, h2, e1, e2 => by
    simp only [toP] at e1 e2
    obtain ⟨ps, x1, rfl⟩ := Option.map_eq_some_iff.mp e1
    obtain ⟨qs, x2, rfl⟩ := Option.map_eq_some_iff.mp e2
    have := pd_eqvL ds es n m ps qs (by simpa only [pd] using h1) (by simpa only [pd] using h2) x1 x2
    simp only [PyData.eqv, this, D.tup.injEq]
  | .tup ds, _, 0, _, p, q, h1, h2, e1, e2 => by cases h1
  | _, .tup ds, _, 0, p, q, h1, h2, e1, e2 => by cases h2
  | .int i, .int j, n, m, p, q, h1, h2, e1, e2 => by cases e1; cases e2; simp [PyData.eqv]
  | .str i, .str j, n, m, p, q, h1, h2, e1, e2 => by cases e1; cases e2; simp [PyData.eqv]
  | .non, .non, n, m, p, q, h1, h2, e1, e2 => by cases e1; cases e2; simp [PyData.eqv]
  | .int i, .str j, n, m, p, q, h1, h2, e1, e2 => by cases e1; cases e2; simp [PyData.eqv]
  | .int i, .non, n, m, p, q, h1, h2, e1, e2 => by cases e1; cases e2; simp [PyData.eqv]
  | .str i, .int j, n, m, p, q, h1, h2, e1, e2 => by cases e1; cases e2; simp [PyData.eqv]
  | .str i, .non, n, m, p, q, h1, h2, e1, e2 => by cases e1; cases e2; simp [PyData.eqv]
  | .non, .int j, n, m, p, q, h1, h2, e1, e2 => by cases e1; cases e2; simp [PyData.eqv]
  | .non, .str j, n, m, p, q, h1, h2, e1, e2 => by cases e1; cases e2; simp [PyData.eqv]
  | .int i, .tup es, n, m + 1, p, q, h1, h2, e1, e2 => by
    simp only [toP] at e1 e2
    obtain ⟨qs, x2, rfl⟩ := Option.map_eq_some_iff.mp e2
    cases e1; simp [PyData.eqv]
  | .str i, .tup es, n, m + 1, p, q, h1, h2, e1, e2 => by
    simp only [toP] at e1 e2
    obtain ⟨qs, x2, rfl⟩ := Option.map_eq_some_iff.mp e2
    cases e1; simp [PyData.eqv]
  | .non, .tup es, n, m + 1, p, q, h1, h2, e1, e2 => by
    simp only [toP] at e1 e2
    obtain ⟨qs, x2, rfl⟩ := Option.map_eq_some_iff.mp e2
    cases e1; simp [PyData.eqv]
  | .tup es, .int i, n + 1, m, p, q, h1, h2, e1, e2 => by
    simp only [toP] at e1 e2
    obtain ⟨qs, x2, rfl⟩ := Option.map_eq_some_iff.mp e1
    cases e2; simp [PyData.eqv]
  | .tup es, .str i, n + 1, m, p, q, h1, h2, e1, e2 => by
    simp only [toP] at e1 e2
    obtain ⟨qs, x2, rfl⟩ := Option.map_eq_some_iff.mp e1
    cases e2; simp [PyData.eqv]
  | .tup es, .non, n + 1, m, p, q, h1, h2, e1, e2 => by
    simp only [toP] at e1 e2
    obtain ⟨qs, x2, rfl⟩ := Option.map_eq_some_iff.mp e1
    cases e2; simp [PyData.eqv]
  | .bl _, _, n, m, p, q, h1, h2, e1, e2 => by cases n <;> cases h1
  | .loc _, _, n, m, p, q, h1, h2, e1, e2 => by cases n <;> cases h1
  | .ty _, _, n, m, p, q, h1, h2, e1, e2 => by cases n <;> cases h1
  | .fn _, _, n, m, p, q, h1, h2, e1, e2 => by cases n <;> cases h1
  | _, .bl _, n, m, p, q, h1, h2, e1, e2 => by cases m <;> cases h2
  | _, .loc _, n, m, p, q, h1, h2, e1, e2 => by cases m <;> cases h2
  | _, .ty _, n, m, p, q, h1, h2, e1, e2 => by cases m <;> cases h2
  | _, .fn _, n, m, p, q, h1, h2, e1, e2 => by cases m <;> cases h2
theorem pd_eqvL : ∀ (ds es : List D) (n m : Nat) (ps qs : List PyData), pdL n ds = true → pdL m es = true → toPL ds = some ps → toPL es = some qs → (PyData.eqvAll ps qs = true ↔ ds = es)
  | [], [], n, m, ps, qs, h1, h2, e1, e2 => by cases e1; cases e2; simp [PyData.eqvAll]
  | d :: ds, [], n, m, ps, qs, h1, h2, e1, e2 => by
    simp only [toPL] at e1 e2
    obtain ⟨p, a1, e1⟩ := Option.bind_eq_some_iff.mp e1
    obtain ⟨ps', a2, rfl⟩ := Option.map_eq_some_iff.mp e1
    cases e2; simp [PyData.eqvAll]
  | [], d :: ds, n, m, ps, qs, h1, h2, e1, e2 => by
    simp only [toPL] at e1 e2
    obtain ⟨p, a1, e2⟩ := Option.bind_eq_some_iff.mp e2
    obtain ⟨ps', a2, rfl⟩ := Option.map_eq_some_iff.mp e2
    cases e1; simp [PyData.eqvAll]
  | d :: ds, e :: es, n, m, ps, qs, h1, h2, e1, e2 => by
    simp only [toPL] at e1 e2
    obtain ⟨p, a1, e1⟩ := Option.bind_eq_some_iff.mp e1
    obtain ⟨ps', a2, rfl⟩ := Option.map_eq_some_iff.mp e1
    obtain ⟨q, b1, e2⟩ := Option.bind_eq_some_iff.mp e2
    obtain ⟨qs', b2, rfl⟩ := Option.map_eq_some_iff.mp e2
    simp only [pdL, Bool.and_eq_true] at h1 h2
    have x := pd_eqv d e n m p q h1.1 h2.1 a1 b1
    have y := pd_eqvL ds es n m ps' qs' h1.2 h2.2 a2 b2
    simp only [PyData.eqvAll, Bool.and_eq_true, x, y, List.cons.injEq]
end
theorem toPS_pd {S : Sto} {d : D} {n : Nat} (h : pd n d = true) : toPS S d = toP d := by
  cases d with
  | loc l => cases n <;> cases h
  | _ => rfl
theorem eqP_pd {S : Sto} {d e : D} {n m : Nat} (h1 : pd n d = true) (h2 : pd m e = true) (hn : n ≤ 60 := by decide) (hm : m ≤ 60 := by decide) : ∃ k, eqP S d e = some k ∧ (k = true ↔ d = e) := by
  obtain ⟨p, a1, a2, a3⟩ := pd_toP d n h1
  obtain ⟨q, b1, b2, b3⟩ := pd_toP e m h2
  have s1 : SeqAt.shaped p = true := by unfold SeqAt.shaped; rw [a2, decide_eq_true (by omega)]; rfl
  have s2 : SeqAt.shaped q = true := by unfold SeqAt.shaped; rw [b2, decide_eq_true (by omega)]; rfl
  exact ⟨_, by rw [eqP, toPS_pd h1, toPS_pd h2, a1, b1]; simp only [Option.bind_some, s1, s2, Bool.and_self, if_true], pd_eqv d e n m p q h1 h2 a1 b1⟩
theorem cEq_t {S : Sto} {d : D} {n : Nat} (h : pd n d = true) (hn : n ≤ 60 := by decide) : cEq d d S = some (.bl true, S) := by
  obtain ⟨k, h1, h2⟩ := eqP_pd (S := S) h h hn hn
  rw [h2.mpr rfl] at h1
  rw [cEq, h1]; rfl
theorem cEq_f {S : Sto} {d e : D} {n m : Nat} (h : pd n d = true) (h' : pd m e = true) (he : d ≠ e) (hn : n ≤ 60 := by decide) (hm : m ≤ 60 := by decide) : cEq d e S = some (.bl false, S) := by
  obtain ⟨k, h1, h2⟩ := eqP_pd (S := S) h h' hn hm
  have : k = false := by cases k <;> simp_all
  rw [cEq, h1, this]; rfl
theorem rq_inj {q r : Rat} : rq q = rq r ↔ q = r := by
  unfold rq
  simp only [D.tup.injEq, List.cons.injEq, D.int.injEq, and_true]
  exact ⟨fun ⟨a, b⟩ => Rat.ext a (by omega), fun e => by subst e; exact ⟨rfl, rfl⟩⟩
section
variable {env : En} {S : Sto} {f : Den} {l h : ODen} {fu : ADen}
@[simp] theorem x_rev : uRev f env S = (f env S).bind fun p => match p.1 with
  | .loc m => (lsAt p.2 m).map fun xs => (xs.reverse, p.2)
  | _ => none := rfl
@[simp] theorem x_esl : eSl f l h env S = (f env S).bind fun p => (l env p.2).bind fun q => (h env q.2).bind fun r => match p.1 with
  | .tup xs => some (.tup (cutD xs q.1 r.1), r.2)
  | .loc m => (lsAt r.2 m).map fun xs => (.loc r.2.length, r.2 ++ [.lst (cutD xs q.1 r.1)])
  | _ => none := rfl
@[simp] theorem x_izip : iZip fu env S = (fu env S).bind fun p => match p.1 with
  | [.tup xs, .tup ys] => some (⟨zipD xs ys, []⟩, p.2)
  | [.loc l, .loc m] => match p.2[l]?, p.2[m]? with
    | some (.lst xs), some (.lst ys) => some (⟨zipD xs ys, [(l, .lst xs), (m, .lst ys)]⟩, p.2)
    | _, _ => none
  | _ => none := rfl
@[simp] theorem x_isb {a b : Bool} : cIs (.bl a) (.bl b) S = some (.bl (decide (a = b)), S) := rfl
@[simp] theorem x_isnb {a b : Bool} : cIsNot (.bl a) (.bl b) S = some (.bl (!decide (a = b)), S) := rfl
@[simp] theorem x_onone : oNone env S = some (none, S) := rfl
@[simp] theorem x_osome {i : Int} : oSome (eC (.int i)) env S = some (some i, S) := rfl
end
/-! ### loops that leave the store -/
end ML

namespace ML
open PySem PySem.Spec PyProof.Rows L2
section
variable {S T : Sto} {o : Ob} {n : Nat}
@[simp] theorem get_app0 : (S ++ o :: T)[S.length]? = some o := by
  rw [List.getElem?_append_right (Nat.le_refl _)]; simp
@[simp] theorem get_appn : (S ++ T)[S.length + n]? = T[n]? := by
  rw [List.getElem?_append_right (by omega)]; simp
@[simp] theorem lsAt_app0 : lsAt (S ++ o :: T) S.length = o.xs? := by
  rw [lsAt, get_app0]; rfl
@[simp] theorem lsAt_appn : lsAt (S ++ T) (S.length + n) = lsAt T n := by
  rw [lsAt, get_appn]; rfl
theorem get_app_lt {l : Nat} {x : Ob} (h : S[l]? = some x) : (S ++ T)[l]? = some x := by
  rw [List.getElem?_append_left]
  · exact h
  · exact (List.getElem?_eq_some_iff.mp h).1
theorem gc_loc {S' : Sto} {n l : Nat} (h : n ≤ l) : gc n (.loc l) S' = (.loc l, S') := by
  unfold gc
  have : D.bel n (.loc l) = false := by simp only [D.bel]; exact decide_eq_false (by omega)
  rw [this]; simp
end
theorem Dk.app {m : Nat} {rest more : List Ob} {S : Sto} (h : Dk m rest S) : Dk m (rest ++ more) (S ++ more) := by
  obtain ⟨ns, parts, i, j, e, a, b, c, d⟩ := h.ex
  exact ⟨ns, parts, i, j, by rw [e]; rfl, a, b, c, d⟩
/-! texts of numbers -/
theorem ofStr_ok (s : String) : (PyData.str (Str.ofString s)).canLay0 = true := by
  show (cpsOfBytes 0 0 s.toByteArray.data.toList).toArray.all (· < 0x110000) = true
  rw [cpsOfBytes_string]
  simp only [List.all_toArray, List.all_map, List.all_eq_true, Function.comp, decide_eq_true_eq]
  intro c _
  have := c.valid
  have h2 : c.toNat = c.val.toNat := rfl
  rcases this with h | ⟨_, h⟩
  · have : c.val.toNat < 55296 := h
    omega
  · have : c.val.toNat < 1114112 := h
    omega
@[simp] theorem x_str {i : Int} {S : Sto} (h : i.natAbs.log2 < 1920) : bStr [.int i] S = some (.str (toString i), S) := if_pos h
@[simp] theorem x_dk1 {f g : Den} {env : En} {S : Sto} : eDk1 f g env S = (f env S).bind fun p => (g env p.2).bind fun q => (dKy p.1).map fun k => (.loc q.2.length, q.2 ++ [.dk [(k, q.1)]]) := rfl
@[simp] theorem x_li {f : Den} {env : En} {S : Sto} : uLi f env S = (f env S).bind fun p => match p.1 with
  | .tup xs => some (xs, p.2)
  | .loc m => (lsAt p.2 m).map fun xs => (xs, p.2)
  | _ => none := rfl
@[simp] theorem x_addLL {S : Sto} {l m : Nat} : gAdd (.loc l) (.loc m) S = match S[l]?, S[m]? with
    | some (.lst x), some (.lst y) => if x.length + y.length ≤ sizeLine then some (D.loc S.length, S ++ [Ob.lst (x ++ y)]) else none
    | _, _ => none := rfl
@[simp] theorem x_osomeG {f : Den} {env : En} {S : Sto} : oSome f env S = (f env S).bind fun p => match p.1 with
  | .int i => some (some i, p.2)
  | _ => none := rfl
theorem Dk.get {m : Nat} {rest : List Ob} {S : Sto} (h : Dk m rest S) (i : Nat) : S[i + 3]? = rest[i]? := by
  obtain ⟨ns, parts, i, j, e, a, b, c, d⟩ := h.ex
  rw [e]; rfl
theorem x_addL {S : Sto} {l m : Nat} {x y : List D} (h1 : S[l]? = some (.lst x)) (h2 : S[m]? = some (.lst y)) (h : x.length + y.length ≤ 1000) : gAdd (.loc l) (.loc m) S = some (.loc S.length, S ++ [.lst (x ++ y)]) := by
  show (match S[l]?, S[m]? with
    | some (.lst x), some (.lst y) => if x.length + y.length ≤ sizeLine then some (D.loc S.length, S ++ [Ob.lst (x ++ y)]) else none
    | _, _ => none) = _
  rw [h1, h2]
  exact if_pos (by rw [sizeLine_eq]; omega)
end ML

namespace ML
open PySem PySem.Spec PyProof.Rows L2
/-! ### stores that name only what they have -/
mutual
theorem bel_mono {n m : Nat} (h : n ≤ m) : ∀ (d : D), d.bel n = true → d.bel m = true
  | .loc l, e => by simp only [D.bel, decide_eq_true_eq] at e ⊢; omega
  | .tup ds, e => by simp only [D.bel] at e ⊢; exact belL_mono h ds e
  | .non, _ => rfl
  | .bl _, _ => rfl
  | .int _, _ => rfl
  | .str _, _ => rfl
  | .ty _, _ => rfl
  | .fn _, _ => rfl
theorem belL_mono {n m : Nat} (h : n ≤ m) : ∀ (ds : List D), D.belL n ds = true → D.belL m ds = true
  | [], _ => rfl
  | d :: ds, e => by
    simp only [D.belL, Bool.and_eq_true] at e ⊢
    exact ⟨bel_mono h d e.1, belL_mono h ds e.2⟩
end
theorem ob_mono {n m : Nat} (h : n ≤ m) (o : Ob) (e : o.bel n = true) : o.bel m = true := by
  cases o with
  | lst xs => exact belL_mono h xs e
  | rol xs => exact belL_mono h xs e
  | dk kvs =>
    simp only [Ob.bel, List.all_eq_true] at e ⊢
    exact fun p hp => bel_mono h _ (e p hp)
def Wf (S : Sto) : Prop := ∀ o ∈ S, o.bel S.length = true
theorem Wf.app {S : Sto} {o : Ob} (h : Wf S) (ho : o.bel (S.length + 1) = true) : Wf (S ++ [o]) := by
  intro x hx
  rw [List.length_append, List.length_singleton]
  rcases List.mem_append.mp hx with e | e
  · exact ob_mono (by omega) x (h x e)
  · have : x = o := by simpa using e
    rw [this]; exact ho
theorem Wf.set {S : Sto} {o : Ob} {l : Nat} (h : Wf S) (ho : o.bel S.length = true) : Wf (S.set l o) := by
  intro x hx
  rw [List.length_set]
  rcases List.mem_or_eq_of_mem_set hx with e | e
  · exact h x e
  · rw [e]; exact ho
theorem gc_wf {S T : Sto} {d : D} {n : Nat} (h : Wf S) (hn : S.length = n) (hd : d.bel n = true) : gc n d (S ++ T) = (d, S) := by
  subst hn
  unfold gc
  have e : (S ++ T).take S.length = S := by simp
  rw [e, hd]
  have : (S.all fun o => o.bel S.length) = true := List.all_eq_true.mpr h
  rw [this]; rfl
/-! ### the second way of drawing -/
structure Nx (p q n : Nat) (S : Sto) : Prop where
  wf : Wf S
  ex : ∃ (nums : List Int) (i r s : Int), S[p]? = some (.lst (nums.map .int)) ∧ S[q]? = some (.lst [.loc p, .int i, .int r, .int s]) ∧ nums ≠ [] ∧ nums.length ≤ 1000 ∧ 0 ≤ i ∧ i ≤ n ∧ 0 ≤ s ∧ s < 2 ^ 61
  ne : p ≠ q
/-- all objects but the one at q stand as they were -/
def Same (q : Nat) (S S' : Sto) : Prop := S'.length = S.length ∧ ∀ l, l ≠ q → S'[l]? = S[l]?
theorem Same.refl (q : Nat) (S : Sto) : Same q S S := ⟨rfl, fun _ _ => rfl⟩
theorem Same.trans {q : Nat} {S S1 S2 : Sto} (a : Same q S S1) (b : Same q S1 S2) : Same q S S2 := ⟨b.1.trans a.1, fun l h => (b.2 l h).trans (a.2 l h)⟩
theorem Same.set {q : Nat} {S : Sto} {o : Ob} : Same q S (S.set q o) := ⟨by simp, fun l h => by rw [List.getElem?_set_ne (Ne.symm h)]⟩
theorem Nx.mono {p q n m : Nat} {S : Sto} (h : Nx p q n S) (hm : n ≤ m) : Nx p q m S := by
  obtain ⟨wf, ⟨nums, i, r, s, h1, h2, h3, h4, h5, h6, h7, h8⟩, ne⟩ := h
  exact ⟨wf, ⟨nums, i, r, s, h1, h2, h3, h4, h5, by omega, h7, h8⟩, ne⟩
theorem Nx.lt {p q n : Nat} {S : Sto} (h : Nx p q n S) : p < S.length ∧ q < S.length := by
  obtain ⟨wf, ⟨nums, i, r, s, h1, h2, _⟩, ne⟩ := h
  exact ⟨(List.getElem?_eq_some_iff.mp h1).1, (List.getElem?_eq_some_iff.mp h2).1⟩
theorem Nx.app {p q n : Nat} {S : Sto} {o : Ob} (h : Nx p q n S) (ho : o.bel (S.length + 1) = true) : Nx p q n (S ++ [o]) := by
  obtain ⟨wf, ⟨nums, i, r, s, h1, h2, h3⟩, ne⟩ := h
  exact ⟨wf.app ho, ⟨nums, i, r, s, get_app_lt h1, get_app_lt h2, h3⟩, ne⟩
theorem Nx.set {p q n l : Nat} {S : Sto} {o : Ob} (h : Nx p q n S) (ho : o.bel S.length = true) (hp : l ≠ p) (hq : l ≠ q) : Nx p q n (S.set l o) := by
  obtain ⟨wf, ⟨nums, i, r, s, h1, h2, h3⟩, ne⟩ := h
  exact ⟨wf.set ho, ⟨nums, i, r, s, by rw [List.getElem?_set_ne hp]; exact h1, by rw [List.getElem?_set_ne hq]; exact h2, h3⟩, ne⟩
/-! a fraction over what is above nought -/
/-! ### alike, by turns -/
end ML

namespace ML
open PySem PySem.Spec PyProof.Rows L2
/-! ### the deck with the longer mixing -/
/-! ### the third way to the greatest part -/
end ML

namespace ML
open PySem PySem.Spec PyProof.Rows L2
/-! ### from what is wanted at the end back to the begin -/
def wE (f : Den) (env : En) (S : Sto) (Q : D → Sto → Prop) : Prop := ∃ d S', f env S = some (d, S') ∧ Q d S'
def wA (f : ADen) (env : En) (S : Sto) (Q : List D → Sto → Prop) : Prop := ∃ d S', f env S = some (d, S') ∧ Q d S'
def wT (f : TDen) (env : En) (S : Sto) (Q : Bool → Sto → Prop) : Prop := ∃ d S', f env S = some (d, S') ∧ Q d S'
def wS (f : SDen) (env : En) (S : Sto) (Q : Fl → En → Sto → Prop) : Prop := ∃ o e S', f env S = some (o, e, S') ∧ Q o e S'
def wF (F : Fn) (ds : List D) (S : Sto) (Q : D → Sto → Prop) : Prop := ∃ d S', F ds S = some (d, S') ∧ Q d S'
def w2 (g : Op2) (a b : D) (S : Sto) (Q : D → Sto → Prop) : Prop := ∃ d S', g a b S = some (d, S') ∧ Q d S'
def w1 (g : Op1) (a : D) (S : Sto) (Q : D → Sto → Prop) : Prop := ∃ d S', g a S = some (d, S') ∧ Q d S'
def wM (g : Mt) (a : D) (ds : List D) (S : Sto) (Q : D → Sto → Prop) : Prop := ∃ d S', g a ds S = some (d, S') ∧ Q d S'
def wG (g : GDen) (d : D) (env : En) (S : Sto) (Q : En → Sto → Prop) : Prop := ∃ e S', g d env S = some (e, S') ∧ Q e S'
def wGs (g : GsDen) (d : List D) (env : En) (S : Sto) (Q : En → Sto → Prop) : Prop := ∃ e S', g d env S = some (e, S') ∧ Q e S'
def wI (g : IDen) (env : En) (S : Sto) (Q : List D → List (Nat × Ob) → Sto → Prop) : Prop := ∃ it S', g env S = some (it, S') ∧ Q it.ds it.src S'
def wO (g : ODen) (env : En) (S : Sto) (Q : Option Int → Sto → Prop) : Prop := ∃ d S', g env S = some (d, S') ∧ Q d S'
def wR (src : List (Nat × Ob)) (g : GDen) (b : SDen) (ds : List D) (env : En) (S : Sto) (Q : Fl → En → Sto → Prop) : Prop := ∃ o e S', fRun src g b ds env S = some (o, e, S') ∧ Q o e S'
def wL (src : List (Nat × Ob)) (g : GDen) (t : TDen) (f : Den) (env : En) (ds acc : List D) (S : Sto) (Q : List D → Sto → Prop) : Prop := ∃ d S', lcRun src g t f env ds acc S = some (d, S') ∧ Q d S'
def wTru (d : D) (S : Sto) (Q : Bool → Sto → Prop) : Prop := ∃ k, truD d S = some k ∧ Q k S
/-- a fork -/
def wB (b : Bool) (A B : Prop) : Prop := if b = true then A else B
/-- a tuple that fits -/
def wLen (xs : List D) (A : Prop) : Prop := xs.length ≤ sizeLine ∧ A
def kC (c : SDen) (Q : Fl → En → Sto → Prop) : Fl → En → Sto → Prop
  | .nx, e, S => wS c e S Q
  | o, e, S => Q o e S
def kAB (Q : Bool → Sto → Prop) : D → Sto → Prop
  | .bl k, S => Q k S
  | _, _ => False
def kP (i j : Nat) (env : En) (Q : Fl → En → Sto → Prop) : List D → Sto → Prop
  | [a, b], S => Q .nx ((env.set i (some a)).set j (some b)) S
  | _, _ => False
def kP3 (i j l : Nat) (env : En) (Q : Fl → En → Sto → Prop) : List D → Sto → Prop
  | [a, b, c], S => Q .nx (((env.set i (some a)).set j (some b)).set l (some c)) S
  | _, _ => False
/-- o[i] = d -/
def wPut (d x y : D) (env : En) (S : Sto) (Q : En → Sto → Prop) : Prop := ∃ l i xs j, x = .loc l ∧ y = .int i ∧ S[l]? = some (.lst xs) ∧ ixN xs.length i = some j ∧ Q env (S.set l (.lst (xs.set j d)))
/-- x[lo:hi] -/
def wSl (x : D) (lo hi : Option Int) (S : Sto) (Q : D → Sto → Prop) : Prop := (∃ xs, x = .tup xs ∧ Q (.tup (cutD xs lo hi)) S) ∨ ∃ l xs, x = .loc l ∧ lsAt S l = some xs ∧ Q (.loc S.length) (S ++ [.lst (cutD xs lo hi)])
def wLi (x : D) (S : Sto) (Q : List D → Sto → Prop) : Prop := ∃ xs, (x = .tup xs ∨ ∃ l, x = .loc l ∧ lsAt S l = some xs) ∧ Q xs S
def wTup (xs : List D) (S : Sto) (Q : D → Sto → Prop) : Prop := xs.length ≤ sizeLine ∧ Q (.tup xs) S
def asT : D → Option (List D)
  | .tup xs => some xs
  | _ => none
def wSeq (x : D) (S : Sto) (Q : List D → List (Nat × Ob) → Sto → Prop) : Prop := (∃ ys, x = .tup ys ∧ Q ys [] S) ∨ ∃ l ys, x = .loc l ∧ S[l]? = some (.lst ys) ∧ Q ys [(l, .lst ys)] S
def wZip (xs : List D) (S : Sto) (Q : List D → List (Nat × Ob) → Sto → Prop) : Prop := (∃ us vs, xs = [.tup us, .tup vs] ∧ Q (zipD us vs) [] S) ∨ ∃ l m us vs, xs = [.loc l, .loc m] ∧ S[l]? = some (.lst us) ∧ S[m]? = some (.lst vs) ∧ Q (zipD us vs) [(l, .lst us), (m, .lst vs)] S
/-- what a def's end hands out -/
def kR (n : Nat) (Q : D → Sto → Prop) : Fl → En → Sto → Prop
  | .rt d, _, S => Q (gc n d S).1 (gc n d S).2
  | .nx, _, S => Q (gc n .non S).1 (gc n .non S).2
  | _, _, _ => False
inductive SetR : En → Nat → D → En → Prop where
  | z {x : Option D} {e : En} {d : D} : SetR (x :: e) 0 d (some d :: e)
  | s {x : Option D} {e e' : En} {n : Nat} {d : D} : SetR e n d e' → SetR (x :: e) (n + 1) d (x :: e')
theorem SetR.eq : ∀ {e : En} {n : Nat} {d : D} {e' : En}, SetR e n d e' → e.set n (some d) = e'
  | _, _, _, _, .z => rfl
  | _, _, _, _, .s h => by rw [List.set_cons_succ, h.eq]
inductive NoneR : En → Nat → En → Prop where
  | z {x : Option D} {e : En} : NoneR (x :: e) 0 (none :: e)
  | s {x : Option D} {e e' : En} {n : Nat} : NoneR e n e' → NoneR (x :: e) (n + 1) (x :: e')
theorem NoneR.eq : ∀ {e : En} {n : Nat} {e' : En}, NoneR e n e' → e.set n none = e'
  | _, _, _, .z => rfl
  | _, _, _, .s h => by rw [List.set_cons_succ, h.eq]
inductive WipeR : En → List Nat → En → Prop where
  | z {e : En} : WipeR e [] e
  | s {e e1 e' : En} {n : Nat} {r : List Nat} : WipeR e r e1 → NoneR e1 n e' → WipeR e (n :: r) e'
theorem WipeR.eq : ∀ {e : En} {n : List Nat} {e' : En}, WipeR e n e' → wipeE e n = e'
  | _, _, _, .z => rfl
  | _, _, _, .s h h' => by rw [wipeE, h.eq, h'.eq]
inductive RepR : Nat → En → Prop where
  | z : RepR 0 []
  | s {n : Nat} {e : En} : RepR n e → RepR (n + 1) (none :: e)
theorem RepR.eq : ∀ {n : Nat} {e : En}, RepR n e → e = List.replicate n none
  | _, _, .z => rfl
  | _, _, .s h => by rw [h.eq]; rfl
inductive InitR : List D → Nat → En → Prop where
  | z {n : Nat} {e : En} : RepR n e → InitR [] n e
  | s {x : D} {xs : List D} {n : Nat} {e : En} : InitR xs n e → InitR (x :: xs) (n + 1) (some x :: e)
theorem InitR.eq : ∀ {xs : List D} {n : Nat} {e : En}, InitR xs n e → xs.map some ++ List.replicate (n - xs.length) none = e
  | _, _, _, .z h => by rw [h.eq]; rfl
  | _, _, _, .s (n := n) (xs := xs) h => by
    rw [List.map_cons, List.cons_append, List.length_cons, Nat.add_sub_add_right, h.eq]
section
variable {env env' env2 : En} {S S' : Sto} {f g h0 : Den} {t u : TDen} {a : ADen} {d x y z : D} {b c : SDen} {op : Op2} {o1 : Op1} {F : Fn} {gg : GDen} {gs : GsDen} {it : IDen}
variable {Q : D → Sto → Prop} {QA : List D → Sto → Prop} {QT : Bool → Sto → Prop} {QS : Fl → En → Sto → Prop} {QG : En → Sto → Prop} {QO : Option Int → Sto → Prop} {QI : List D → List (Nat × Ob) → Sto → Prop} {i j l n : Nat} {xs ys : List D} {A B : Prop} {k : Bool}
theorem wS_mono {Q' : Fl → En → Sto → Prop} (h : wS b env S QS) (m : ∀ o e S', QS o e S' → Q' o e S') : wS b env S Q' := by
  obtain ⟨o, e, S', e1, q⟩ := h; exact ⟨o, e, S', e1, m _ _ _ q⟩
theorem w_cut (P : En → Sto → Prop) (h : wS b env S fun o e T => o = .nx ∧ P e T) (k : ∀ e T, P e T → QS .nx e T) : wS b env S QS := wS_mono h fun _ _ _ ⟨a, q⟩ => by subst a; exact k _ _ q
theorem w_E (h : f env S = some (d, S')) (q : Q d S') : wE f env S Q := ⟨_, _, h, q⟩
theorem w_F (h : F xs S = some (d, S')) (q : Q d S') : wF F xs S Q := ⟨_, _, h, q⟩
theorem w_2 (h : op x y S = some (d, S')) (q : Q d S') : w2 op x y S Q := ⟨_, _, h, q⟩
theorem w_var (h : env[i]? = some (some d)) (q : Q d S) : wE (eVar i) env S Q := ⟨d, S, by unfold eVar; rw [h], q⟩
theorem w_c (q : Q d S) : wE (eC d) env S Q := ⟨d, S, rfl, q⟩
theorem w_op (h : wE f env S fun x S1 => wE g env S1 fun y S2 => w2 op x y S2 Q) : wE (eOp op f g) env S Q := by
  obtain ⟨x, S1, e1, y, S2, e2, d, S3, e3, q⟩ := h
  exact ⟨d, S3, by rw [x_op, e1, Option.bind_some, e2]; exact e3, q⟩
theorem w_un (h : wE f env S fun x S1 => w1 o1 x S1 Q) : wE (eUn o1 f) env S Q := by
  obtain ⟨x, S1, e1, d, S3, e3, q⟩ := h
  exact ⟨d, S3, by rw [x_un, e1]; exact e3, q⟩
theorem w_anil (q : QA [] S) : wA aNil env S QA := ⟨[], S, rfl, q⟩
theorem w_acons (h : wE f env S fun x S1 => wA a env S1 fun xs S2 => QA (x :: xs) S2) : wA (aCons f a) env S QA := by
  obtain ⟨x, S1, e1, y, S2, e2, q⟩ := h
  exact ⟨x :: y, S2, by rw [x_acons, e1, Option.bind_some, e2]; rfl, q⟩
theorem w_tup2 (h : wA a env S fun xs S1 => wTup xs S1 Q) : wE (eTup a) env S Q := by
  obtain ⟨x, S1, e1, hl, q⟩ := h
  exact ⟨.tup x, S1, by rw [x_tup, e1, Option.bind_some, if_pos hl], q⟩
theorem wTup_any (q : Q (.tup xs) S) (h : xs.length ≤ 1000 := by exact Nat.le_of_ble_eq_true rfl) : wTup xs S Q := ⟨line_pos h, q⟩
theorem wTup_q0 (k : Q (rq 0) S) : wTup [.int 0, .int 1] S Q := wTup_any k
theorem wTup_q1 (k : Q (rq 1) S) : wTup [.int 1, .int 1] S Q := wTup_any k
theorem wTup_q2 (k : Q (rq 2) S) : wTup [.int 2, .int 1] S Q := wTup_any k
theorem wTup_qm1 (k : Q (rq (-1)) S) : wTup [.int (-1), .int 1] S Q := wTup_any k
theorem wTup_qm2 (k : Q (rq (-2)) S) : wTup [.int (-2), .int 1] S Q := wTup_any k
theorem wTup_q (q : Rat) (k : Q (rq q) S) : wTup [.int q.num, .int q.den] S Q := wTup_any k
theorem wTup_p {a b c : Rat} (k : Q (rp a b c) S) : wTup [rq a, rq b, rq c] S Q := wTup_any k
theorem w_c0 (k : Q (rq 0) S) : wE (eC (.tup [.int 0, .int 1])) env S Q := w_E rfl k
theorem w_c1 (k : Q (rq 1) S) : wE (eC (.tup [.int 1, .int 1])) env S Q := w_E rfl k
theorem w_len (q : A) (h : xs.length ≤ 1000 := by decide) : wLen xs A := ⟨line_pos h, q⟩
theorem w_call (h : wA a env S fun xs S1 => wF F xs S1 Q) : wE (eCall F a) env S Q := by
  obtain ⟨x, S1, e1, d, S2, e2, q⟩ := h
  exact ⟨d, S2, by rw [x_call, e1, Option.bind_some, e2], q⟩
theorem w_eif (h : wT t env S fun k S1 => wB k (wE f env S1 Q) (wE g env S1 Q)) : wE (eIf t f g) env S Q := by
  obtain ⟨k, S1, e1, h⟩ := h
  unfold wB at h
  split at h
  · rename_i hk
    obtain ⟨d, S2, e2, q⟩ := h
    exact ⟨d, S2, by rw [x_if, e1, Option.bind_some, if_pos hk, e2], q⟩
  · rename_i hk
    obtain ⟨d, S2, e2, q⟩ := h
    exact ⟨d, S2, by rw [x_if, e1, Option.bind_some, if_neg hk, e2], q⟩
theorem w_eand (h : wE f env S fun x S1 => wTru x S1 fun k S2 => wB k (wE g env S1 Q) (Q x S1)) : wE (eAnd f g) env S Q := by
  obtain ⟨x, S1, e1, k, e2, h⟩ := h
  unfold wB at h
  split at h
  · rename_i hk
    obtain ⟨d, S2, e3, q⟩ := h
    exact ⟨d, S2, by rw [x_and, e1, Option.bind_some, e2, Option.bind_some, if_pos hk, e3], q⟩
  · rename_i hk
    exact ⟨x, S1, by rw [x_and, e1, Option.bind_some, e2, Option.bind_some, if_neg hk], h⟩
theorem w_eor (h : wE f env S fun x S1 => wTru x S1 fun k S2 => wB k (Q x S1) (wE g env S1 Q)) : wE (eOr f g) env S Q := by
  obtain ⟨x, S1, e1, k, e2, h⟩ := h
  unfold wB at h
  split at h
  · rename_i hk
    exact ⟨x, S1, by rw [x_or, e1, Option.bind_some, e2, Option.bind_some, if_pos hk], h⟩
  · rename_i hk
    obtain ⟨d, S2, e3, q⟩ := h
    exact ⟨d, S2, by rw [x_or, e1, Option.bind_some, e2, Option.bind_some, if_neg hk, e3], q⟩
theorem w_enot (h : wE f env S fun x S1 => wTru x S1 fun k S2 => Q (.bl (!k)) S1) : wE (eNot f) env S Q := by
  obtain ⟨x, S1, e1, k, e2, h⟩ := h
  exact ⟨_, S1, by rw [x_not, e1, Option.bind_some, e2, Option.bind_some], h⟩
theorem w_tru (h : wE f env S fun x S1 => wTru x S1 QT) : wT (tTru f) env S QT := by
  obtain ⟨x, S1, e1, k, e2, h⟩ := h
  exact ⟨k, S1, by rw [x_tru, e1, Option.bind_some, e2]; rfl, h⟩
theorem w_asB (h : wE f env S (kAB QT)) : wT (asB f) env S QT := by
  obtain ⟨x, S1, e1, h⟩ := h
  cases x with
  | bl k => exact ⟨k, S1, by rw [x_asB, e1]; rfl, h⟩
  | _ => exact h.elim
theorem kAB_bl (q : QT k S) : kAB QT (.bl k) S := q
theorem wTru_bl (q : QT k S) : wTru (.bl k) S QT := ⟨k, rfl, q⟩
theorem wTru_int {i : Int} (q : QT (i != 0) S) : wTru (.int i) S QT := ⟨_, rfl, q⟩
theorem wTru_non (q : QT false S) : wTru .non S QT := ⟨_, rfl, q⟩
theorem w_tand (h : wT t env S fun k S1 => wB k (wT u env S1 QT) (QT false S1)) : wT (ML.tAnd t u) env S QT := by
  obtain ⟨k, S1, e1, h⟩ := h
  unfold wB at h
  split at h
  · rename_i hk
    obtain ⟨d, S2, e2, q⟩ := h
    exact ⟨d, S2, by rw [x_tand, e1, Option.bind_some, if_pos hk, e2], q⟩
  · rename_i hk
    exact ⟨false, S1, by rw [x_tand, e1, Option.bind_some, if_neg hk], h⟩
theorem w_tor (h : wT t env S fun k S1 => wB k (QT true S1) (wT u env S1 QT)) : wT (ML.tOr t u) env S QT := by
  obtain ⟨k, S1, e1, h⟩ := h
  unfold wB at h
  split at h
  · rename_i hk
    exact ⟨true, S1, by rw [x_tor, e1, Option.bind_some, if_pos hk], h⟩
  · rename_i hk
    obtain ⟨d, S2, e2, q⟩ := h
    exact ⟨d, S2, by rw [x_tor, e1, Option.bind_some, if_neg hk, e2], q⟩
theorem w_tnot (h : wT t env S fun k S1 => QT (!k) S1) : wT (ML.tNot t) env S QT := by
  obtain ⟨k, S1, e1, h⟩ := h
  exact ⟨_, S1, by rw [x_tnot, e1, Option.bind_some], h⟩
theorem w_tyes (q : QT true S) : wT ML.tYes env S QT := ⟨_, _, rfl, q⟩
theorem wB_t (q : A) : wB true A B := q
theorem wB_f (q : B) : wB false A B := (if_neg (by decide)).mpr q
theorem wB_not (q : wB k B A) : wB (!k) A B := by cases k <;> exact q
theorem wB_dec {p : Prop} [Decidable p] (h : p → A) (h' : ¬ p → B) : wB (decide p) A B := by
  by_cases c : p
  · rw [decide_eq_true c]; exact h c
  · rw [decide_eq_false c]; exact wB_f (h' c)
theorem w_own (h : wA a env S fun xs S1 => Q (.loc S1.length) (S1 ++ [.lst xs])) : wE (eOwn a) env S Q := by
  obtain ⟨x, S1, e1, q⟩ := h
  exact ⟨_, _, by rw [x_own, e1]; rfl, q⟩
theorem w_ulst (h : wA a env S fun xs S1 => wLen xs (QA xs S1)) : wA (uLst a) env S QA := by
  obtain ⟨x, S1, e1, hl, q⟩ := h
  exact ⟨x, S1, by rw [x_ulst, e1, Option.bind_some, if_pos hl], q⟩
theorem w_uix (h : wA a env S fun xs S1 => wE f env S1 fun y S2 => w2 gIx (.tup xs) y S2 Q) : wE (eUIx a f) env S Q := by
  obtain ⟨x, S1, e1, y, S2, e2, d, S3, e3, q⟩ := h
  cases y with
  | int i =>
    simp at e3
    obtain ⟨d', e4, rfl, rfl⟩ := e3
    exact ⟨d', S2, by rw [x_uix, e1, Option.bind_some, e2, Option.bind_some]; simp only; rw [e4]; rfl, q⟩
  | _ => simp [gIx] at e3
theorem w_u {F : Fn} (h : wA a env S fun xs S1 => wF F xs S1 Q) : wE (eU F a) env S Q := by
  obtain ⟨x, S1, e1, d, S2, e2, q⟩ := h
  exact ⟨d, S2, by rw [x_u, e1, Option.bind_some, e2], q⟩
theorem w_snil (q : QS .nx env S) : wS sNil env S QS := ⟨_, _, _, rfl, q⟩
theorem w_scons (h : wS b env S (kC c QS)) : wS (sCons b c) env S QS := by
  obtain ⟨o, e, S1, e1, h⟩ := h
  cases o with
  | nx =>
    obtain ⟨o, e', S2, e2, q⟩ := h
    exact ⟨o, e', S2, by rw [x_scons, e1]; exact e2, q⟩
  | _ => exact ⟨_, e, S1, by rw [x_scons, e1]; rfl, h⟩
theorem kC_nx (q : wS c env S QS) : kC c QS .nx env S := q
theorem kC_rt (q : QS (.rt d) env S) : kC c QS (.rt d) env S := q
theorem w_asg (h : wE f env S fun d S1 => wG gg d env S1 fun e S2 => QS .nx e S2) : wS (sAsg f gg) env S QS := by
  obtain ⟨x, S1, e1, e, S2, e2, q⟩ := h
  exact ⟨_, e, S2, by rw [x_asg, e1, Option.bind_some, e2]; rfl, q⟩
theorem w_asgU (h : wA a env S fun xs S1 => wG (ML.gName i) (.loc S1.length) env (S1 ++ [.lst xs]) fun e S2 => QS .nx e S2) : wS (sAsgU a i) env S QS := by
  obtain ⟨x, S1, e1, e, S2, e2, q⟩ := h
  cases e2
  exact ⟨_, _, _, by rw [x_asgU, e1]; rfl, q⟩
theorem w_gname (h : SetR env i d env') (q : QG env' S) : wG (ML.gName i) d env S QG := ⟨_, _, rfl, by rw [h.eq]; exact q⟩
theorem w_gtup (hl : xs.length = n) (h : wGs gs xs env S QG) : wG (ML.gTup n gs) (.tup xs) env S QG := by
  obtain ⟨e, S1, e1, q⟩ := h
  exact ⟨e, S1, by rw [x_gtup, if_pos hl, e1], q⟩
theorem w_gtupT (h0 : asT x = some xs) (hl : xs.length = n) (h : wGs gs xs env S QG) : wG (ML.gTup n gs) x env S QG := by
  cases x with
  | tup us => cases h0; exact w_gtup hl h
  | _ => cases h0
theorem w_gtupL (hl : xs.length = n) (h : wGs gs xs env S QG) : wG (gTupL n gs) (.tup xs) env S QG := by
  obtain ⟨e, S1, e1, q⟩ := h
  exact ⟨e, S1, by show (if xs.length = n then gs xs env S else none) = _; rw [if_pos hl, e1], q⟩
theorem w_put {fo fi : Den} (h : wE fo env S fun x S1 => wE fi env S1 fun y S2 => wPut d x y env S2 QG) : wG (gPut fo fi) d env S QG := by
  obtain ⟨x, S1, e1, y, S2, e2, l, i, xs, j, rfl, rfl, e3, e4, q⟩ := h
  exact ⟨env, _, by unfold gPut; rw [e1, Option.bind_some, e2, Option.bind_some]; simp only; rw [e3]; simp only; rw [e4]; rfl, q⟩
theorem wPut_l {i : Int} {j : Nat} (h1 : S[l]? = some (.lst xs)) (h2 : ixN xs.length i = some j) (h3 : xs.set j d = ys) (q : QG env (S.set l (.lst ys))) : wPut d (.loc l) (.int i) env S QG := ⟨l, i, xs, j, rfl, rfl, h1, h2, by rw [h3]; exact q⟩
theorem w_gnil (q : QG env S) : wGs ML.gNil [] env S QG := ⟨_, _, rfl, q⟩
theorem w_gcons (h : wG gg d env S fun e S1 => wGs gs xs e S1 QG) : wGs (ML.gCons gg gs) (d :: xs) env S QG := by
  obtain ⟨e, S1, e1, e', S2, e2, q⟩ := h
  exact ⟨e', S2, by rw [x_gcons, e1, Option.bind_some, e2], q⟩
theorem w_par (h : wA a env S fun xs S1 => kP i j env QS xs S1) : wS (sPar i j a) env S QS := by
  obtain ⟨x, S1, e1, q⟩ := h
  match x, q with
  | [u, v], q => exact ⟨_, _, _, by rw [x_par, e1]; rfl, q⟩
theorem kP_2 (h : SetR env i x env') (h2 : SetR env' j y env2) (q : QS .nx env2 S) : kP i j env QS [x, y] S := by
  show QS .nx _ S
  rw [h.eq, h2.eq]; exact q
theorem w_par3 (h : wA a env S fun xs S1 => kP3 i j l env QS xs S1) : wS (sPar3 i j l a) env S QS := by
  obtain ⟨x, S1, e1, q⟩ := h
  match x, q with
  | [u, v, w], q => exact ⟨_, _, _, by rw [x_par3, e1]; rfl, q⟩
theorem kP3_3 {env3 : En} (h : SetR env i x env') (h2 : SetR env' j y env2) (h3 : SetR env2 l z env3) (q : QS .nx env3 S) : kP3 i j l env QS [x, y, z] S := by
  show QS .nx _ S
  rw [h.eq, h2.eq, h3.eq]; exact q
theorem w_ret (h : wE f env S fun d S1 => QS (.rt d) env S1) : wS (sRet f) env S QS := by
  obtain ⟨x, S1, e1, q⟩ := h
  exact ⟨_, _, _, by rw [x_ret, e1]; rfl, q⟩
theorem w_retN (q : QS (.rt .non) env S) : wS sRetN env S QS := ⟨_, _, _, rfl, q⟩
theorem w_expr (h : wE f env S fun d S1 => QS .nx env S1) : wS (sExpr f) env S QS := by
  obtain ⟨x, S1, e1, q⟩ := h
  exact ⟨_, _, _, by rw [x_expr, e1]; rfl, q⟩
theorem w_sif (h : wT t env S fun k S1 => wB k (wS b env S1 QS) (wS c env S1 QS)) : wS (sIf t b c) env S QS := by
  obtain ⟨k, S1, e1, h⟩ := h
  unfold wB at h
  split at h
  · rename_i hk
    obtain ⟨o, e, S2, e2, q⟩ := h
    exact ⟨o, e, S2, by rw [x_sif, e1, Option.bind_some, if_pos hk, e2], q⟩
  · rename_i hk
    obtain ⟨o, e, S2, e2, q⟩ := h
    exact ⟨o, e, S2, by rw [x_sif, e1, Option.bind_some, if_neg hk, e2], q⟩
theorem w_bk (q : QS .bk env S) : wS sBk env S QS := ⟨_, _, _, rfl, q⟩
theorem w_ct (q : QS .ct env S) : wS sCt env S QS := ⟨_, _, _, rfl, q⟩
theorem w_aug (h : env[i]? = some (some x)) (q : wE f env S fun y S1 => w2 op x y S1 fun d S2 => wG (ML.gName i) d env S2 fun e S3 => QS .nx e S3) : wS (sAug i op f) env S QS := by
  obtain ⟨y, S1, e1, d, S2, e2, e, S3, e3, q⟩ := q
  cases e3
  exact ⟨_, _, _, by unfold sAug; rw [h]; simp only; rw [e1, Option.bind_some, e2]; rfl, q⟩
theorem w_for (h : wI it env S fun ds src S1 => wR src gg b ds env S1 QS) : wS (sFor it gg b) env S QS := by
  obtain ⟨t, S1, e1, o, e, S2, e2, q⟩ := h
  exact ⟨o, e, S2, by rw [x_for, e1, Option.bind_some, e2], q⟩
/-- what follows a turn -/
def kL (next : En → Sto → Prop) (Q : Fl → En → Sto → Prop) : Fl → En → Sto → Prop
  | .nx, e, S => next e S
  | .ct, e, S => next e S
  | .bk, e, S => Q .nx e S
  | .rt d, e, S => Q (.rt d) e S
theorem kL_nx {N : En → Sto → Prop} (q : N env S) : kL N QS .nx env S := q
theorem kL_ct {N : En → Sto → Prop} (q : N env S) : kL N QS .ct env S := q
theorem kL_bk {N : En → Sto → Prop} (q : QS .nx env S) : kL N QS .bk env S := q
theorem kL_rt {N : En → Sto → Prop} (q : QS (.rt d) env S) : kL N QS (.rt d) env S := q
theorem w_rnil {src : List (Nat × Ob)} (so : srcOk src S) (q : QS .nx env S) : wR src gg b [] env S QS := ⟨_, _, _, by rw [fRun, if_pos so], q⟩
theorem w_rcons {src : List (Nat × Ob)} (so : srcOk src S) (h : wG gg d env S fun e S1 => wS b e S1 (kL (fun e S2 => wR src gg b xs e S2 QS) QS)) : wR src gg b (d :: xs) env S QS := by
  obtain ⟨e, S1, e1, o, e', S2, e2, h⟩ := h
  cases o with
  | nx => obtain ⟨o, e3, S3, e4, q⟩ := h; exact ⟨o, e3, S3, by rw [fRun, if_pos so, e1, Option.bind_some, e2, Option.bind_some]; exact e4, q⟩
  | ct => obtain ⟨o, e3, S3, e4, q⟩ := h; exact ⟨o, e3, S3, by rw [fRun, if_pos so, e1, Option.bind_some, e2, Option.bind_some]; exact e4, q⟩
  | bk => exact ⟨_, _, _, by rw [fRun, if_pos so, e1, Option.bind_some, e2]; rfl, h⟩
  | rt d => exact ⟨_, _, _, by rw [fRun, if_pos so, e1, Option.bind_some, e2]; rfl, h⟩
/-- a for by what holds ahead of each turn -/
theorem w_rinv {src : List (Nat × Ob)} (I : Nat → En → Sto → Prop) (h0 : I 0 env S) (so : ∀ i e S, I i e S → srcOk src S)
    (hs : ∀ i d e S, xs[i]? = some d → I i e S → wG gg d e S fun e1 S1 => wS b e1 S1 (kL (I (i + 1)) QS)) (he : ∀ e S, I xs.length e S → QS .nx e S) : wR src gg b xs env S QS := by
  suffices ∀ (ys : List D) (k : Nat) (env : En) (S : Sto), xs.drop k = ys → k ≤ xs.length → I k env S → wR src gg b ys env S QS from this xs 0 env S rfl (Nat.zero_le _) h0
  intro ys
  induction ys with
  | nil =>
    intro k env S e hk hI
    have : k = xs.length := by
      have := congrArg List.length e
      simp at this; omega
    subst this
    exact w_rnil (so _ _ _ hI) (he _ _ hI)
  | cons y ys ih =>
    intro k env S e hk hI
    have hk2 : k < xs.length := by
      have := congrArg List.length e
      simp at this; omega
    have hy : xs[k]? = some y := by
      have := congrArg (fun l => l[0]?) e
      simpa using this
    have hd : xs.drop (k + 1) = ys := by
      have := congrArg List.tail e
      simpa using this
    refine w_rcons (so _ _ _ hI) ?_
    obtain ⟨e1, S1, a1, o, e2, S2, a2, h⟩ := hs k y env S hy hI
    refine ⟨e1, S1, a1, o, e2, S2, a2, ?_⟩
    cases o with
    | nx => exact ih (k + 1) e2 S2 hd hk2 h
    | ct => exact ih (k + 1) e2 S2 hd hk2 h
    | bk => exact h
    | rt d => exact h
theorem w_ulc {vs : List Nat} (hw : WipeR env vs env') (h : wI it env S fun ds src S1 => wL src gg t f env' ds [] S1 QA) : wA (uLc it gg t f vs) env S QA := by
  rw [← hw.eq] at h
  obtain ⟨p, S1, e1, x, S2, e2, q⟩ := h
  exact ⟨x, S2, by rw [x_lc, e1, Option.bind_some, e2], q⟩
theorem w_lnil {src : List (Nat × Ob)} (so : srcOk src S) (q : QA ys S) : wL src gg t f env [] ys S QA := ⟨_, _, by rw [lcRun, if_pos so], q⟩
theorem w_lnil2 {src : List (Nat × Ob)} (so : srcOk src S) (h : ys = xs) (q : QA xs S) : wL src gg t f env [] ys S QA := by subst h; exact w_lnil so q
theorem w_lcons {src : List (Nat × Ob)} (so : srcOk src S) (hl : ys.length < 1000) (h : wG gg d env S fun e S1 => wT t e S1 fun k S2 => wB k (wE f e S2 fun r S3 => wL src gg t f env xs (ys ++ [r]) S3 QA) (wL src gg t f env xs ys S2 QA)) : wL src gg t f env (d :: xs) ys S QA := by
  obtain ⟨e, S1, e1, k, S2, e2, h⟩ := h
  have hz : ys.length < sizeLine := by rw [sizeLine_eq]; omega
  unfold wB at h
  split at h
  · rename_i hk
    obtain ⟨r, S3, e3, z, S4, e4, q⟩ := h
    exact ⟨z, S4, by rw [lcRun, if_pos so, e1, Option.bind_some, e2, Option.bind_some, if_pos hk, e3, Option.bind_some, if_pos hz, e4], q⟩
  · rename_i hk
    obtain ⟨z, S4, e4, q⟩ := h
    exact ⟨z, S4, by rw [lcRun, if_pos so, e1, Option.bind_some, e2, Option.bind_some, if_neg hk, e4], q⟩
/-- a comprehension without a test, by what holds ahead of each turn -/
theorem w_linv {src : List (Nat × Ob)} (I : Nat → List D → Sto → Prop) (h0 : I 0 [] S) (so : ∀ i ys S, I i ys S → srcOk src S) (hl : xs.length ≤ 1000)
    (hs : ∀ i d ys S, xs[i]? = some d → ys.length ≤ i → I i ys S → wG gg d env S fun e S1 => wT t e S1 fun k S2 => wB k (wE f e S2 fun r S3 => I (i + 1) (ys ++ [r]) S3) (I (i + 1) ys S2)) (he : ∀ ys S, ys.length ≤ xs.length → I xs.length ys S → QA ys S) : wL src gg t f env xs [] S QA := by
  suffices ∀ (zs : List D) (k : Nat) (ys : List D) (S : Sto), xs.drop k = zs → k ≤ xs.length → ys.length ≤ k → I k ys S → wL src gg t f env zs ys S QA from this xs 0 [] S rfl (Nat.zero_le _) (Nat.le_refl _) h0
  intro zs
  induction zs with
  | nil =>
    intro k ys S e hk hy hI
    have : k = xs.length := by
      have := congrArg List.length e
      simp at this; omega
    subst this
    exact w_lnil (so _ _ _ hI) (he _ _ hy hI)
  | cons y zs ih =>
    intro k ys S e hk hl2 hI
    have hk2 : k < xs.length := by
      have := congrArg List.length e
      simp at this; omega
    have hy : xs[k]? = some y := by
      have := congrArg (fun l => l[0]?) e
      simpa using this
    have hd : xs.drop (k + 1) = zs := by
      have := congrArg List.tail e
      simpa using this
    refine w_lcons (so _ _ _ hI) (by omega) ?_
    obtain ⟨e1, S1, a1, o, S2, a2, h⟩ := hs k y ys S hy hl2 hI
    refine ⟨e1, S1, a1, o, S2, a2, ?_⟩
    cases o with
    | true =>
      obtain ⟨r, S3, e3, h⟩ := h
      exact ⟨r, S3, e3, ih (k + 1) (ys ++ [r]) S3 hd hk2 (by simp; omega) h⟩
    | false => exact wB_f (ih (k + 1) ys S2 hd hk2 (by omega) ((if_neg (by decide)).mp h))
/-- while by what holds ahead of each test, and what falls -/
theorem w_while (I : En → Sto → Prop) (μ : En → Sto → Nat) (h0 : I env S)
    (hs : ∀ e S, I e S → wT t e S fun k S1 => wB k (wS b e S1 (kL (fun e' S' => I e' S' ∧ μ e' S' < μ e S) QS)) (QS .nx e S1)) : wS (sWhile t b) env S QS := by
  suffices ∀ (n : Nat) (env : En) (S : Sto), μ env S ≤ n → I env S → wS (sWhile t b) env S QS from this (μ env S) env S (Nat.le_refl _) h0
  intro n
  induction n with
  | zero =>
    intro env S hn hI
    obtain ⟨k, S1, e1, h⟩ := hs env S hI
    unfold wB at h
    split at h
    · rename_i hk
      obtain ⟨o, e, S2, e2, h⟩ := h
      cases o with
      | nx => obtain ⟨_, z⟩ := h; omega
      | ct => obtain ⟨_, z⟩ := h; omega
      | bk => exact ⟨_, _, _, by rw [sWhile_eq, e1, Option.bind_some, if_pos hk, e2]; rfl, h⟩
      | rt d => exact ⟨_, _, _, by rw [sWhile_eq, e1, Option.bind_some, if_pos hk, e2]; rfl, h⟩
    · rename_i hk
      exact ⟨_, _, _, by rw [sWhile_eq, e1, Option.bind_some, if_neg hk], h⟩
  | succ n ih =>
    intro env S hn hI
    obtain ⟨k, S1, e1, h⟩ := hs env S hI
    unfold wB at h
    split at h
    · rename_i hk
      obtain ⟨o, e, S2, e2, h⟩ := h
      cases o with
      | nx =>
        obtain ⟨h, z⟩ := h
        obtain ⟨o, e', S3, e3, q⟩ := ih e S2 (by omega) h
        exact ⟨o, e', S3, by rw [sWhile_eq, e1, Option.bind_some, if_pos hk, e2, Option.bind_some]; exact e3, q⟩
      | ct =>
        obtain ⟨h, z⟩ := h
        obtain ⟨o, e', S3, e3, q⟩ := ih e S2 (by omega) h
        exact ⟨o, e', S3, by rw [sWhile_eq, e1, Option.bind_some, if_pos hk, e2, Option.bind_some]; exact e3, q⟩
      | bk => exact ⟨_, _, _, by rw [sWhile_eq, e1, Option.bind_some, if_pos hk, e2]; rfl, h⟩
      | rt d => exact ⟨_, _, _, by rw [sWhile_eq, e1, Option.bind_some, if_pos hk, e2]; rfl, h⟩
    · rename_i hk
      exact ⟨_, _, _, by rw [sWhile_eq, e1, Option.bind_some, if_neg hk], h⟩
/-! calls -/
theorem w_mk {np ns : Nat} {e0 : En} (hi : InitR xs ns e0) (hl : xs.length = np) (h : wS b e0 S (kR S.length Q)) : wF (mkFn np ns b) xs S Q := by
  have he := hi.eq
  rw [hl] at he
  subst he
  obtain ⟨o, e, S1, e1, h⟩ := h
  cases o with
  | rt d => exact ⟨_, _, by unfold mkFn; rw [if_pos hl, e1]; rfl, h⟩
  | nx => exact ⟨_, _, by unfold mkFn; rw [if_pos hl, e1]; rfl, h⟩
  | _ => exact h.elim
theorem kR_same (q : Q d S) (h : S.length = n := by rfl) : kR n Q (.rt d) env S := by subst h; show Q _ _; rw [gc_self]; exact q
theorem gc_1 : (gc n d S).1 = d := by unfold gc; split <;> rfl
theorem kR_any (q : ∀ S', Q d S') : kR n Q (.rt d) env S := by show Q _ _; rw [gc_1]; exact q _
theorem kR_loc (q : Q (.loc l) S) (h : n ≤ l) : kR n Q (.rt (.loc l)) env S := by
  show Q _ _
  rw [gc_loc h]; exact q
theorem kR_wf {T : Sto} (hw : Wf S) (hd : d.bel n = true) (hn : S.length = n) (q : Q d S) : kR n Q (.rt d) env (S ++ T) := by
  show Q _ _
  rw [gc_wf hw hn hd]; exact q
/-! operators -/
theorem w_add {i j : Int} (q : Q (.int (i + j)) S) : w2 gAdd (.int i) (.int j) S Q := ⟨_, _, rfl, q⟩
theorem w_addI {i j : Int} (q : Q (.int (i + j)) S) : w2 gAddI (.int i) (.int j) S Q := ⟨_, _, rfl, q⟩
theorem w_sub {i j : Int} (q : Q (.int (i - j)) S) : w2 gSub (.int i) (.int j) S Q := ⟨_, _, rfl, q⟩
theorem w_mul {i j : Int} (h : wideM i j) (q : Q (.int (i * j)) S) : w2 gMul (.int i) (.int j) S Q := ⟨_, _, x_mul h, q⟩
theorem w_fdiv {i j : Int} (h : wideD j) (q : Q (.int (i.fdiv j)) S) : w2 gFdiv (.int i) (.int j) S Q := ⟨_, _, x_fdiv h, q⟩
theorem w_mod {i j : Int} (h : j ≠ 0) (q : Q (.int (i.fmod j)) S) : w2 gMod (.int i) (.int j) S Q := ⟨_, _, x_mod h, q⟩
theorem w_neg {i : Int} (q : Q (.int (-i)) S) : w1 gNeg (.int i) S Q := ⟨_, _, rfl, q⟩
theorem w_cmp {p : Int → Int → Bool} {i j : Int} (q : Q (.bl (p i j)) S) : w2 (gCmp p) (.int i) (.int j) S Q := ⟨_, _, rfl, q⟩
theorem w_eqi {i j : Int} (q : Q (.bl (decide (i = j))) S) : w2 cEq (.int i) (.int j) S Q := ⟨_, _, x_eqi, q⟩
theorem w_nei {i j : Int} (q : Q (.bl (!decide (i = j))) S) : w2 cNe (.int i) (.int j) S Q := ⟨_, _, x_nei, q⟩
theorem w_eqq {q r : Rat} (k : Q (.bl (decide (q = r))) S) : w2 cEq (rq q) (rq r) S Q := ⟨_, _, x_eqq, k⟩
theorem w_neq {q r : Rat} (k : Q (.bl (!decide (q = r))) S) : w2 cNe (rq q) (rq r) S Q := ⟨_, _, x_neq, k⟩
theorem w_eqpp {a b c a' b' c' : Rat} (q : Q (.bl (decide (a = a' ∧ b = b' ∧ c = c'))) S) : w2 cEq (rp a b c) (rp a' b' c') S Q := by
  obtain ⟨k, e, hk⟩ := eqP_pd (S := S) (d := rp a b c) (e := rp a' b' c') (n := 2) (m := 2) rfl rfl
  refine ⟨_, _, by rw [cEq, e]; rfl, ?_⟩
  have : decide (a = a' ∧ b = b' ∧ c = c') = k := by
    rw [Bool.eq_iff_iff, hk, decide_eq_true_eq, rp, rp]
    simp only [D.tup.injEq, List.cons.injEq, rq_inj, and_true]
  rw [← this]; exact q
theorem w_isNN (q : Q (.bl true) S) : w2 cIs .non .non S Q := ⟨_, _, rfl, q⟩
theorem w_isnNN (q : Q (.bl false) S) : w2 cIsNot .non .non S Q := ⟨_, _, rfl, q⟩
theorem w_isN (h : cIs d .non S = some (.bl false, S)) (q : Q (.bl false) S) : w2 cIs d .non S Q := ⟨_, _, h, q⟩
theorem w_isnN (h : cIsNot d .non S = some (.bl true, S)) (q : Q (.bl true) S) : w2 cIsNot d .non S Q := ⟨_, _, h, q⟩
theorem w_ix0 (q : Q x S) : w2 gIx (.tup (x :: xs)) (.int 0) S Q := ⟨_, _, by rw [x_ixt, atI_0]; rfl, q⟩
theorem w_ix1 (q : Q y S) : w2 gIx (.tup (x :: y :: xs)) (.int 1) S Q := ⟨_, _, by rw [x_ixt, atI_1]; rfl, q⟩
theorem w_ix2 (q : Q z S) : w2 gIx (.tup (x :: y :: z :: xs)) (.int 2) S Q := ⟨_, _, by rw [x_ixt, atI_2]; rfl, q⟩
theorem w_ix3 (q : Q d S) : w2 gIx (.tup (x :: y :: z :: d :: xs)) (.int 3) S Q := ⟨_, _, by rw [x_ixt, atI_3]; rfl, q⟩
theorem w_ix {i : Int} (h : atI xs i = some d) (q : Q d S) : w2 gIx (.tup xs) (.int i) S Q := ⟨_, _, by rw [x_ixt, h]; rfl, q⟩
theorem w_ixl {i : Int} (h : lsAt S l = some xs) (h2 : atI xs i = some d) (q : Q d S) : w2 gIx (.loc l) (.int i) S Q := ⟨_, _, by rw [x_ixl, h, Option.bind_some, h2]; rfl, q⟩
theorem w_ixq0 {q : Rat} (k : Q (.int q.num) S) : w2 gIx (rq q) (.int 0) S Q := ⟨_, _, ix_q0, k⟩
theorem w_ixq1 {q : Rat} (k : Q (.int q.den) S) : w2 gIx (rq q) (.int 1) S Q := ⟨_, _, ix_q1, k⟩
theorem w_ixp0 {a b c : Rat} (k : Q (rq a) S) : w2 gIx (rp a b c) (.int 0) S Q := ⟨_, _, by rw [rp, x_ixt, atI_0]; rfl, k⟩
theorem w_ixp1 {a b c : Rat} (k : Q (rq b) S) : w2 gIx (rp a b c) (.int 1) S Q := ⟨_, _, by rw [rp, x_ixt, atI_1]; rfl, k⟩
theorem w_ixp2 {a b c : Rat} (k : Q (rq c) S) : w2 gIx (rp a b c) (.int 2) S Q := ⟨_, _, by rw [rp, x_ixt, atI_2]; rfl, k⟩
theorem w_int {i : Int} (q : Q (.int i) S) : wF bInt [.int i] S Q := ⟨_, _, rfl, q⟩
theorem w_intb (q : Q (.int (if k = true then 1 else 0)) S) : wF bInt [.bl k] S Q := ⟨_, _, rfl, q⟩
theorem w_abs {i : Int} (q : Q (.int (i.natAbs : Int)) S) : wF bAbs [.int i] S Q := ⟨_, _, x_abs, q⟩
theorem w_max {i j : Int} (q : Q (.int (max i j)) S) : wF bMax [.int i, .int j] S Q := ⟨_, _, x_max, q⟩
theorem w_min {i j : Int} (q : Q (.int (min i j)) S) : wF bMin [.int i, .int j] S Q := ⟨_, _, x_min, q⟩
theorem w_lent (q : Q (.int xs.length) S) : wF bLen [.tup xs] S Q := ⟨_, _, rfl, q⟩
theorem w_lenl (h : lsAt S l = some xs) (q : Q (.int xs.length) S) : wF bLen [.loc l] S Q := ⟨_, _, by rw [x_lenl, h]; rfl, q⟩
theorem w_tupU (q : Q (.tup xs) S) : wF gTupU xs S Q := ⟨_, _, rfl, q⟩
theorem w_tupUp {a b c : Rat} (q : Q (rp a b c) S) : wF gTupU [rq a, rq b, rq c] S Q := ⟨_, _, rfl, q⟩
theorem w_lenU (q : Q (.int xs.length) S) : wF gLenU xs S Q := ⟨_, _, rfl, q⟩
theorem w_tupt (q : Q (.tup xs) S) : wF bTuple [.tup xs] S Q := ⟨_, _, rfl, q⟩
theorem w_tupl (h : lsAt S l = some xs) (q : Q (.tup xs) S) : wF bTuple [.loc l] S Q := ⟨_, _, by show (lsAt S l).map _ = _; rw [h]; rfl, q⟩
theorem w_mt {g : Mt} (h : wE f env S fun x S1 => isLs S1 x = true ∧ wA a env S1 fun xs S2 => wM g x xs S2 Q) : wE (eMt g f a) env S Q := by
  obtain ⟨x, S1, e1, hl, y, S2, e2, d, S3, e3, q⟩ := h
  exact ⟨d, S3, by unfold eMt; rw [e1, Option.bind_some, if_pos hl, e2, Option.bind_some, e3], q⟩
theorem w_append (h : S[l]? = some (.lst xs)) (hl : xs.length ≤ 1000) (q : Q .non (S.set l (.lst (xs ++ [d])))) : wM mAppend (.loc l) [d] S Q := ⟨_, _, by
  show (match S[l]? with
      | some (.lst xs) => if xs.length < sizeLine then some (D.non, S.set l (Ob.lst (xs ++ [d]))) else none
      | _ => none) = _
  rw [h]
  exact if_pos (by rw [sizeLine_eq]; omega), q⟩
theorem w_sl {lo hi : ODen} (h : wE f env S fun x S1 => wO lo env S1 fun i S2 => wO hi env S2 fun j S3 => wSl x i j S3 Q) : wE (eSl f lo hi) env S Q := by
  obtain ⟨x, S1, e1, i, S2, e2, j, S3, e3, h⟩ := h
  rcases h with ⟨xs, rfl, q⟩ | ⟨l, xs, rfl, e4, q⟩
  · exact ⟨_, _, by rw [x_esl, e1, Option.bind_some, e2, Option.bind_some, e3]; rfl, q⟩
  · exact ⟨_, _, by rw [x_esl, e1, Option.bind_some, e2, Option.bind_some, e3, Option.bind_some]; simp only; rw [e4]; rfl, q⟩
theorem w_onone (q : QO none S) : wO oNone env S QO := ⟨_, _, rfl, q⟩
theorem w_osome (h : wE f env S fun x S1 => ∃ i, x = .int i ∧ QO (some i) S1) : wO (oSome f) env S QO := by
  obtain ⟨x, S1, e1, i, rfl, q⟩ := h
  exact ⟨_, _, by rw [x_osomeG, e1]; rfl, q⟩
theorem wSl_t {lo hi : Option Int} (q : Q (.tup (cutD xs lo hi)) S) : wSl (.tup xs) lo hi S Q := .inl ⟨xs, rfl, q⟩
theorem w_uli (h : wE f env S fun x S1 => wLi x S1 QA) : wA (uLi f) env S QA := by
  obtain ⟨x, S1, e1, xs, h, q⟩ := h
  rcases h with rfl | ⟨l, rfl, e2⟩
  · exact ⟨_, _, by rw [x_li, e1]; rfl, q⟩
  · exact ⟨_, _, by rw [x_li, e1, Option.bind_some]; simp only; rw [e2]; rfl, q⟩
theorem wLi_t (q : QA xs S) : wLi (.tup xs) S QA := ⟨xs, .inl rfl, q⟩
theorem w_addll {m : Nat} (h1 : S[l]? = some (.lst xs)) (h2 : S[m]? = some (.lst ys)) (h : xs.length + ys.length ≤ 1000) (q : Q (.loc S.length) (S ++ [.lst (xs ++ ys)])) : w2 gAdd (.loc l) (.loc m) S Q := ⟨_, _, x_addL h1 h2 h, q⟩
theorem w_pow18 (q : Q (.int 1000000000000000000) S) : w2 gPow (.int 10) (.int 18) S Q := ⟨_, _, x_pow (by decide), q⟩
theorem w_isi {t : String} {c : String} (h1 : tyN S d = some t) (h2 : kitB t c = some k) (q : Q (.bl k) S) : wF bIsi [d, .ty c] S Q := ⟨_, _, by rw [x_isi, h1, Option.bind_some, h2]; rfl, q⟩
theorem eqP_ll {i : Nat} {m : Nat} (e1 : lsAt S l = some xs) (e2 : lsAt S i = some ys) (h1 : pdL n xs = true) (h2 : pdL m ys = true) (hn : n ≤ 59 := by decide) (hm : m ≤ 59 := by decide) : ∃ k, eqP S (.loc l) (.loc i) = some k ∧ (k = true ↔ xs = ys) := by
  obtain ⟨p, a1, a2, a3⟩ := pd_toPL xs n h1
  obtain ⟨q, b1, b2, b3⟩ := pd_toPL ys m h2
  have s1 : SeqAt.shaped (.list p) = true := by unfold SeqAt.shaped; rw [show (PyData.list p).canLay0 = true from a2, decide_eq_true (show (PyData.list p).depth ≤ _ by show PyData.depthAll p + 1 ≤ _; omega)]; rfl
  have s2 : SeqAt.shaped (.list q) = true := by unfold SeqAt.shaped; rw [show (PyData.list q).canLay0 = true from b2, decide_eq_true (show (PyData.list q).depth ≤ _ by show PyData.depthAll q + 1 ≤ _; omega)]; rfl
  have t1 : toPS S (.loc l) = some (.list p) := by show (lsAt S l).bind _ = _; rw [e1, Option.bind_some, a1]; rfl
  have t2 : toPS S (.loc i) = some (.list q) := by show (lsAt S i).bind _ = _; rw [e2, Option.bind_some, b1]; rfl
  exact ⟨PyData.eqvAll p q, by rw [eqP, t1, t2]; simp only [Option.bind_some, s1, s2, Bool.and_self, if_true, PyData.eqv], pd_eqvL xs ys n m p q h1 h2 a1 b1⟩
theorem w_mulll {j : Int} (h : S[l]? = some (.lst xs)) (hj : 0 ≤ j ∧ j ≤ 1000 ∧ xs.length * j.toNat ≤ 1000) (q : Q (.loc S.length) (S ++ [.lst (List.replicate j.toNat xs).flatten])) : w2 gMul (.loc l) (.int j) S Q := ⟨_, _, by
  show (match S[l]? with
    | some (.lst x) => if -(2 ^ 63) ≤ j ∧ j < 2 ^ 63 ∧ x.length * j.toNat ≤ sizeLine then some (D.loc S.length, S ++ [Ob.lst (List.replicate j.toNat x).flatten]) else none
    | _ => none) = _
  rw [h]
  simp only
  rw [if_pos ⟨by omega, by omega, by rw [sizeLine_eq]; omega⟩], q⟩
theorem w_eqb {a b : Bool} (q : Q (.bl (decide (a = b))) S) : w2 cEq (.bl a) (.bl b) S Q := ⟨_, _, by
  show (eqP S (.bl a) (.bl b)).map _ = _
  simp only [eqP, toPS, toP, Option.bind_some, sh_bl, Bool.and_self, if_true, Option.map_some, PyData.eqv]
  cases a <;> cases b <;> rfl, q⟩
theorem w_neb {a b : Bool} (q : Q (.bl (!decide (a = b))) S) : w2 cNe (.bl a) (.bl b) S Q := ⟨_, _, by
  show (eqP S (.bl a) (.bl b)).map _ = _
  simp only [eqP, toPS, toP, Option.bind_some, sh_bl, Bool.and_self, if_true, Option.map_some, PyData.eqv]
  cases a <;> cases b <;> rfl, q⟩
/-! what is walked -/
theorem wI_seq (h : wE f env S fun x S1 => wSeq x S1 QI) : wI (iSeq f) env S QI := by
  obtain ⟨x, S1, e1, h⟩ := h
  rcases h with ⟨ys, rfl, q⟩ | ⟨l, ys, rfl, e2, q⟩
  · exact ⟨⟨ys, []⟩, S1, by unfold iSeq; rw [e1]; rfl, q⟩
  · exact ⟨⟨ys, [(l, .lst ys)]⟩, S1, by unfold iSeq; rw [e1, Option.bind_some]; simp only; rw [e2], q⟩
theorem wSeq_t (h : asT x = some xs) (q : QI xs [] S) : wSeq x S QI := by
  cases x with
  | tup us => exact .inl ⟨us, rfl, by rw [Option.some.inj h]; exact q⟩
  | _ => cases h
theorem wSeq_l (h : S[l]? = some (.lst xs)) (q : QI xs [(l, .lst xs)] S) : wSeq (.loc l) S QI := .inr ⟨l, xs, rfl, h, q⟩
theorem wI_zip2 (h : wA a env S fun xs S1 => wZip xs S1 QI) : wI (iZip a) env S QI := by
  obtain ⟨x, S1, e1, h⟩ := h
  rcases h with ⟨us, vs, rfl, q⟩ | ⟨l, m, us, vs, rfl, e2, e3, q⟩
  · exact ⟨⟨zipD us vs, []⟩, S1, by unfold iZip; rw [e1]; rfl, q⟩
  · exact ⟨⟨zipD us vs, [(l, .lst us), (m, .lst vs)]⟩, S1, by unfold iZip; rw [e1, Option.bind_some]; simp only; rw [e2, e3], q⟩
theorem wZip_t (h1 : asT x = some xs) (h2 : asT y = some ys) (q : QI (zipD xs ys) [] S) : wZip [x, y] S QI := by
  cases x with
  | tup us =>
    cases y with
    | tup vs =>
      have e1 := Option.some.inj h1
      have e2 := Option.some.inj h2
      exact .inl ⟨us, vs, rfl, by rw [e1, e2]; exact q⟩
    | _ => cases h2
  | _ => cases h1
theorem wZip_33 {a b c a' b' c' : Rat} (q : QI [.tup [rq a, rq a'], .tup [rq b, rq b'], .tup [rq c, rq c']] [] S) : wZip [rp a b c, rp a' b' c'] S QI := wZip_t rfl rfl q
theorem wI_u (h : wA a env S fun xs S1 => QI xs [] S1) : wI (iU a) env S QI := by
  obtain ⟨x, S1, e1, q⟩ := h
  exact ⟨⟨x, []⟩, S1, by unfold iU; rw [e1]; rfl, q⟩
theorem wI_r1 (h : wE f env S fun x S1 => ∃ n : Int, x = .int n ∧ (-1000000 ≤ n ∧ n ≤ 1000000) ∧ QI (rngs 0 n.toNat) [] S1) : wI (iRange1 f) env S QI := by
  obtain ⟨x, S1, e1, n, rfl, hn, q⟩ := h
  exact ⟨⟨rngs 0 n.toNat, []⟩, S1, by unfold iRange1; rw [e1, Option.bind_some]; simp only; rw [if_pos (by omega)], q⟩
theorem wI_rc {n : Int} (q : QI (rngs 0 n.toNat) [] S) (hn : -1000000 ≤ n ∧ n ≤ 1000000 := by decide) : wI (iRange1 (eC (.int n))) env S QI :=
  wI_r1 (w_c ⟨n, rfl, hn, q⟩)
theorem wI_r3 (q : QI [.int 0, .int 1, .int 2] [] S) : wI (iRange1 (eC (.int 3))) env S QI := wI_rc q
end
end ML

section
open PySem PySem.Spec PyProof.Rows L2 ML
local macro_rules | `(tactic| infer_instance) => `(tactic| with_reducible refine w_isi (by with_unfolding_all rfl) (by first | exact kit_tt | exact kit_it | exact kit_bt | exact kit_st | exact kit_lt | exact kit_nt | exact kit_ii | exact kit_bi | exact kit_ti | exact kit_si | exact kit_ni | exact kit_ib | exact kit_bb | exact kit_tb | exact kit_sb | exact kit_nb | exact kit_ss | exact kit_is | exact kit_bs | exact kit_ts | exact kit_ns | exact kit_tl | exact kit_ll | exact kit_il | exact kit_nl) ?_)
local macro_rules | `(tactic| infer_instance) => `(tactic| with_reducible (apply w_lnil2 srcOk_nil; (focus ((try simp only [List.nil_append, List.cons_append]); rfl))))
local macro_rules | `(tactic| infer_instance) => `(tactic| with_reducible refine w_lcons srcOk_nil (by with_unfolding_all exact Nat.le_of_ble_eq_true rfl) ?_)
local macro_rules | `(tactic| infer_instance) => `(tactic| with_reducible refine w_rnil srcOk_nil ?_)
local macro_rules | `(tactic| infer_instance) => `(tactic| with_reducible refine w_eqpp ?_)
local macro_rules | `(tactic| infer_instance) => `(tactic| with_reducible refine wSeq_t (by with_unfolding_all rfl) ?_)
local macro_rules | `(tactic| infer_instance) => `(tactic| with_reducible refine wZip_t (by with_unfolding_all rfl) (by with_unfolding_all rfl) ?_)
local macro_rules | `(tactic| infer_instance) => `(tactic| with_reducible refine wZip_33 ?_)
local macro_rules | `(tactic| infer_instance) => `(tactic| with_reducible refine wI_zip2 ?_)
local macro_rules | `(tactic| infer_instance) => `(tactic| with_reducible refine wI_seq ?_)
local macro_rules | `(tactic| infer_instance) => `(tactic| with_reducible refine wI_r3 ?_)
local macro_rules | `(tactic| infer_instance) => `(tactic| with_reducible refine wLi_t ?_)
local macro_rules | `(tactic| infer_instance) => `(tactic| with_reducible refine w_uli ?_)
local macro_rules | `(tactic| infer_instance) => `(tactic| with_reducible refine wSl_t ?_)
local macro_rules | `(tactic| infer_instance) => `(tactic| with_reducible refine w_pow18 ?_)
local macro_rules | `(tactic| infer_instance) => `(tactic| with_reducible refine w_onone ?_)
local macro_rules | `(tactic| infer_instance) => `(tactic| with_reducible refine w_sl ?_)
local macro_rules | `(tactic| infer_instance) => `(tactic| with_reducible refine w_put ?_)
local macro_rules | `(tactic| infer_instance) => `(tactic| with_reducible refine w_gtupL (by with_unfolding_all rfl) ?_)
local macro_rules | `(tactic| infer_instance) => `(tactic| with_reducible refine wI_u ?_)
local macro_rules | `(tactic| infer_instance) => `(tactic| with_reducible refine kL_rt ?_)
local macro_rules | `(tactic| infer_instance) => `(tactic| with_reducible refine kL_bk ?_)
local macro_rules | `(tactic| infer_instance) => `(tactic| with_reducible refine kL_ct ?_)
local macro_rules | `(tactic| infer_instance) => `(tactic| with_reducible refine kL_nx ?_)
local macro_rules | `(tactic| infer_instance) => `(tactic| with_reducible refine wB_not ?_)
local macro_rules | `(tactic| infer_instance) => `(tactic| with_reducible refine wB_f ?_)
local macro_rules | `(tactic| infer_instance) => `(tactic| with_reducible refine wB_t ?_)
local macro_rules | `(tactic| infer_instance) => `(tactic| with_reducible refine w_ct ?_)
local macro_rules | `(tactic| infer_instance) => `(tactic| with_reducible refine w_bk ?_)
local macro_rules | `(tactic| infer_instance) => `(tactic| with_reducible refine w_tyes ?_)
local macro_rules | `(tactic| infer_instance) => `(tactic| with_reducible refine w_tupt ?_)
local macro_rules | `(tactic| infer_instance) => `(tactic| with_reducible refine w_lenU ?_)
local macro_rules | `(tactic| infer_instance) => `(tactic| with_reducible refine w_tupU ?_)
local macro_rules | `(tactic| infer_instance) => `(tactic| with_reducible refine w_tupUp ?_)
local macro_rules | `(tactic| infer_instance) => `(tactic| with_reducible refine w_lent ?_)
local macro_rules | `(tactic| infer_instance) => `(tactic| with_reducible refine w_min ?_)
local macro_rules | `(tactic| infer_instance) => `(tactic| with_reducible refine w_max ?_)
local macro_rules | `(tactic| infer_instance) => `(tactic| with_reducible refine w_abs ?_)
local macro_rules | `(tactic| infer_instance) => `(tactic| with_reducible refine w_intb ?_)
local macro_rules | `(tactic| infer_instance) => `(tactic| with_reducible refine w_int ?_)
local macro_rules | `(tactic| infer_instance) => `(tactic| with_reducible refine w_isnN (by with_unfolding_all rfl) ?_)
local macro_rules | `(tactic| infer_instance) => `(tactic| with_reducible refine w_isN (by with_unfolding_all rfl) ?_)
local macro_rules | `(tactic| infer_instance) => `(tactic| with_reducible refine w_ix3 ?_)
local macro_rules | `(tactic| infer_instance) => `(tactic| with_reducible refine w_ix2 ?_)
local macro_rules | `(tactic| infer_instance) => `(tactic| with_reducible refine w_ix1 ?_)
local macro_rules | `(tactic| infer_instance) => `(tactic| with_reducible refine w_ix0 ?_)
local macro_rules | `(tactic| infer_instance) => `(tactic| with_reducible refine w_ixp2 ?_)
local macro_rules | `(tactic| infer_instance) => `(tactic| with_reducible refine w_ixp1 ?_)
local macro_rules | `(tactic| infer_instance) => `(tactic| with_reducible refine w_ixp0 ?_)
local macro_rules | `(tactic| infer_instance) => `(tactic| with_reducible refine w_ixq1 ?_)
local macro_rules | `(tactic| infer_instance) => `(tactic| with_reducible refine w_ixq0 ?_)
local macro_rules | `(tactic| infer_instance) => `(tactic| with_reducible refine w_isnNN ?_)
local macro_rules | `(tactic| infer_instance) => `(tactic| with_reducible refine w_isNN ?_)
local macro_rules | `(tactic| infer_instance) => `(tactic| with_reducible refine w_neb ?_)
local macro_rules | `(tactic| infer_instance) => `(tactic| with_reducible refine w_eqb ?_)
local macro_rules | `(tactic| infer_instance) => `(tactic| with_reducible refine w_neq ?_)
local macro_rules | `(tactic| infer_instance) => `(tactic| with_reducible refine w_eqq ?_)
local macro_rules | `(tactic| infer_instance) => `(tactic| with_reducible refine w_nei ?_)
local macro_rules | `(tactic| infer_instance) => `(tactic| with_reducible refine w_eqi ?_)
local macro_rules | `(tactic| infer_instance) => `(tactic| with_reducible refine w_cmp ?_)
local macro_rules | `(tactic| infer_instance) => `(tactic| with_reducible refine w_neg ?_)
local macro_rules | `(tactic| infer_instance) => `(tactic| with_reducible refine w_sub ?_)
local macro_rules | `(tactic| infer_instance) => `(tactic| with_reducible refine w_addI ?_)
local macro_rules | `(tactic| infer_instance) => `(tactic| with_reducible refine w_add ?_)
local macro_rules | `(tactic| infer_instance) => `(tactic| with_reducible refine w_mt ?_)
local macro_rules | `(tactic| infer_instance) => `(tactic| with_reducible refine w_aug (by with_unfolding_all rfl) ?_)
local macro_rules | `(tactic| infer_instance) => `(tactic| with_reducible (apply w_ulc; (focus (repeat (first | exact WipeR.z | apply WipeR.s | exact NoneR.z | apply NoneR.s)))))
local macro_rules | `(tactic| infer_instance) => `(tactic| with_reducible refine w_retN ?_)
local macro_rules | `(tactic| infer_instance) => `(tactic| with_reducible refine w_expr ?_)
local macro_rules | `(tactic| infer_instance) => `(tactic| with_reducible refine w_asgU ?_)
local macro_rules | `(tactic| infer_instance) => `(tactic| with_reducible refine w_u ?_)
local macro_rules | `(tactic| infer_instance) => `(tactic| with_reducible refine w_uix ?_)
local macro_rules | `(tactic| infer_instance) => `(tactic| with_reducible refine w_ulst ?_)
local macro_rules | `(tactic| infer_instance) => `(tactic| with_reducible refine w_own ?_)
local macro_rules | `(tactic| infer_instance) => `(tactic| with_reducible (apply kP3_3; (focus (repeat (first | exact SetR.z | apply SetR.s))); (focus (repeat (first | exact SetR.z | apply SetR.s))); (focus (repeat (first | exact SetR.z | apply SetR.s)))))
local macro_rules | `(tactic| infer_instance) => `(tactic| with_reducible refine w_par3 ?_)
local macro_rules | `(tactic| infer_instance) => `(tactic| with_reducible (apply kP_2; (focus (repeat (first | exact SetR.z | apply SetR.s))); (focus (repeat (first | exact SetR.z | apply SetR.s)))))
local macro_rules | `(tactic| infer_instance) => `(tactic| with_reducible refine w_par ?_)
local macro_rules | `(tactic| infer_instance) => `(tactic| with_reducible refine w_gcons ?_)
local macro_rules | `(tactic| infer_instance) => `(tactic| with_reducible refine w_gnil ?_)
local macro_rules | `(tactic| infer_instance) => `(tactic| with_reducible refine w_gtupT (by with_unfolding_all rfl) (by with_unfolding_all rfl) ?_)
local macro_rules | `(tactic| infer_instance) => `(tactic| with_reducible refine w_gtup (by with_unfolding_all rfl) ?_)
local macro_rules | `(tactic| infer_instance) => `(tactic| with_reducible refine w_un ?_)
local macro_rules | `(tactic| infer_instance) => `(tactic| with_reducible refine w_enot ?_)
local macro_rules | `(tactic| infer_instance) => `(tactic| with_reducible refine w_eor ?_)
local macro_rules | `(tactic| infer_instance) => `(tactic| with_reducible refine w_eand ?_)
local macro_rules | `(tactic| infer_instance) => `(tactic| with_reducible refine w_eif ?_)
local macro_rules | `(tactic| infer_instance) => `(tactic| with_reducible refine w_tnot ?_)
local macro_rules | `(tactic| infer_instance) => `(tactic| with_reducible refine w_tor ?_)
local macro_rules | `(tactic| infer_instance) => `(tactic| with_reducible refine w_tand ?_)
local macro_rules | `(tactic| infer_instance) => `(tactic| with_reducible refine wTru_non ?_)
local macro_rules | `(tactic| infer_instance) => `(tactic| with_reducible refine wTru_int ?_)
local macro_rules | `(tactic| infer_instance) => `(tactic| with_reducible refine wTru_bl ?_)
local macro_rules | `(tactic| infer_instance) => `(tactic| with_reducible refine w_tru ?_)
local macro_rules | `(tactic| infer_instance) => `(tactic| with_reducible refine w_for ?_)
local macro_rules | `(tactic| infer_instance) => `(tactic| with_reducible refine w_snil ?_)
local macro_rules | `(tactic| infer_instance) => `(tactic| with_reducible refine kAB_bl ?_)
local macro_rules | `(tactic| infer_instance) => `(tactic| with_reducible refine w_asB ?_)
local macro_rules | `(tactic| infer_instance) => `(tactic| with_reducible refine w_sif ?_)
local macro_rules | `(tactic| infer_instance) => `(tactic| with_reducible refine w_ret ?_)
local macro_rules | `(tactic| infer_instance) => `(tactic| with_reducible refine w_len ?_ (by with_unfolding_all exact Nat.le_of_ble_eq_true rfl))
local macro_rules | `(tactic| infer_instance) => `(tactic| with_reducible refine wTup_any ?_ (by with_unfolding_all exact Nat.le_of_ble_eq_true rfl))
local macro_rules | `(tactic| infer_instance) => `(tactic| with_reducible refine wTup_q _ ?_)
local macro_rules | `(tactic| infer_instance) => `(tactic| with_reducible refine wTup_qm2 ?_)
local macro_rules | `(tactic| infer_instance) => `(tactic| with_reducible refine wTup_qm1 ?_)
local macro_rules | `(tactic| infer_instance) => `(tactic| with_reducible refine wTup_q2 ?_)
local macro_rules | `(tactic| infer_instance) => `(tactic| with_reducible refine wTup_q1 ?_)
local macro_rules | `(tactic| infer_instance) => `(tactic| with_reducible refine wTup_q0 ?_)
local macro_rules | `(tactic| infer_instance) => `(tactic| with_reducible refine wTup_p ?_)
local macro_rules | `(tactic| infer_instance) => `(tactic| with_reducible refine w_tup2 ?_)
local macro_rules | `(tactic| infer_instance) => `(tactic| with_reducible (apply w_gname; (focus (repeat (first | exact SetR.z | apply SetR.s)))))
local macro_rules | `(tactic| infer_instance) => `(tactic| with_reducible refine w_anil ?_)
local macro_rules | `(tactic| infer_instance) => `(tactic| with_reducible refine w_acons ?_)
local macro_rules | `(tactic| infer_instance) => `(tactic| with_reducible refine w_call ?_)
local macro_rules | `(tactic| infer_instance) => `(tactic| with_reducible refine w_c ?_)
local macro_rules | `(tactic| infer_instance) => `(tactic| with_reducible refine w_c1 ?_)
local macro_rules | `(tactic| infer_instance) => `(tactic| with_reducible refine w_c0 ?_)
local macro_rules | `(tactic| infer_instance) => `(tactic| with_reducible refine w_var (by with_unfolding_all rfl) ?_)
local macro_rules | `(tactic| infer_instance) => `(tactic| with_reducible refine w_op ?_)
local macro_rules | `(tactic| infer_instance) => `(tactic| with_reducible refine w_asg ?_)
local macro_rules | `(tactic| infer_instance) => `(tactic| with_reducible refine kC_rt ?_)
local macro_rules | `(tactic| infer_instance) => `(tactic| with_reducible refine kC_nx ?_)
local macro_rules | `(tactic| infer_instance) => `(tactic| with_reducible refine w_scons ?_)
local macro_rules | `(tactic| contradiction) => `(tactic| (repeat infer_instance))
local macro_rules | `(tactic| trivial) => `(tactic| (apply w_mk; (focus ((repeat (first | apply InitR.s | apply InitR.z)); repeat (first | exact RepR.z | apply RepR.s))); (focus rfl); contradiction))
namespace ML
open PySem PySem.Spec PyProof.Rows L2

/-! ### the dialect of _law_pick -/
/-- what stood stands, but for the place q -/
def Ex (q : Nat) (S S' : Sto) : Prop := S.length ≤ S'.length ∧ ∀ l, l ≠ q → l < S.length → S'[l]? = S[l]?
theorem Ex.refl (q : Nat) (S : Sto) : Ex q S S := ⟨Nat.le_refl _, fun _ _ _ => rfl⟩
theorem Ex.trans {q : Nat} {S S1 S2 : Sto} (a : Ex q S S1) (b : Ex q S1 S2) : Ex q S S2 := ⟨Nat.le_trans a.1 b.1, fun l h1 h2 => (b.2 l h1 (Nat.lt_of_lt_of_le h2 a.1)).trans (a.2 l h1 h2)⟩
theorem Same.ex {q : Nat} {S S' : Sto} (a : Same q S S') : Ex q S S' := ⟨Nat.le_of_eq a.1.symm, fun l h _ => a.2 l h⟩
theorem Ex.app {q : Nat} {S S' T : Sto} (a : Ex q S S') : Ex q S (S' ++ T) := ⟨by rw [List.length_append]; exact Nat.le_trans a.1 (Nat.le_add_right _ _), fun l h1 h2 => by rw [List.getElem?_append_left (Nat.lt_of_lt_of_le h2 a.1)]; exact a.2 l h1 h2⟩
theorem Ex.set {q l : Nat} {S S' : Sto} {o : Ob} (a : Ex q S S') (h : S.length ≤ l) : Ex q S (S'.set l o) := ⟨by rw [List.length_set]; exact a.1, fun k h1 h2 => by rw [List.getElem?_set_ne (by omega)]; exact a.2 k h1 h2⟩
theorem Ex.get {q l : Nat} {S S' : Sto} {o : Ob} (a : Ex q S S') (h : S[l]? = some o) (hl : l ≠ q) : S'[l]? = some o := (a.2 l hl (List.getElem?_eq_some_iff.mp h).1).trans h
theorem take_all {n : Nat} {S : Sto} (h : ∀ l o, l < n → S[l]? = some o → o.bel n = true) : ((S.take n).all fun o => o.bel n) = true := by
  rw [List.all_eq_true]
  intro o ho
  obtain ⟨l, hl, e⟩ := List.getElem_of_mem ho
  have hl2 : l < n := by
    have := hl
    rw [List.length_take] at this
    omega
  refine h l o hl2 ?_
  rw [← take_get hl2, List.getElem?_eq_getElem hl, e]
theorem Nx.drop {p q n m : Nat} {S S' : Sto} {d : D} (h : Nx p q n S) (h' : Nx p q m S') (hs : Ex q S S') (hd : d.bel S.length = true) : gc S.length d S' = (d, S'.take S.length) ∧ Nx p q m (S'.take S.length) ∧ Same q S (S'.take S.length) := by
  obtain ⟨wf, ⟨nums, i, r, s, h1, h2, h3⟩, ne⟩ := h'
  obtain ⟨hp, hq⟩ := h.lt
  have key : ∀ l o, l < S.length → S'[l]? = some o → o.bel S.length = true := by
    intro l o hl e
    by_cases c : l = q
    · subst c
      rw [h2] at e
      cases e
      simp [Ob.bel, D.belL, D.bel, hp]
    · rw [hs.2 l c hl] at e
      exact h.wf o (List.mem_of_getElem? e)
  have len : (S'.take S.length).length = S.length := by rw [List.length_take]; have := hs.1; omega
  refine ⟨by unfold gc; rw [hd, take_all key]; rfl, ⟨fun o ho => ?_, ⟨nums, i, r, s, by rw [take_get hp]; exact h1, by rw [take_get hq]; exact h2, h3⟩, ne⟩, len, fun l hl => ?_⟩
  · rw [len]
    obtain ⟨l, hl, e⟩ := List.getElem_of_mem ho
    have hl2 : l < S.length := by omega
    exact key l o hl2 (by rw [← take_get hl2, List.getElem?_eq_getElem hl, e])
  · by_cases c : l < S.length
    · rw [take_get c]; exact hs.2 l hl c
    · rw [List.getElem?_eq_none (by omega), List.getElem?_eq_none (by omega)]
/-! the program's own -/
theorem pgcd : IsGcd p_common_part := gcd1
theorem pfrac : IsFrac p_frac := frac_ok (F := p_common_part) pgcd
theorem pplus2 : IsQ2 p_plus (· + ·) := plus_ok (F := p_frac) pfrac
theorem pplus (q r : Rat) (S : Sto) (hq : Sz 4000 q) (hr : Sz 4000 r) : p_plus [rq q, rq r] S = some (rq (q + r), S) := pplus2 q r S hq hr
theorem w_pplus {q r : Rat} {S : Sto} {Q : D → Sto → Prop} (hq : Sz 4000 q) (hr : Sz 4000 r) (k : Q (rq (q + r)) S) : wF p_plus [rq q, rq r] S Q := w_F (pplus q r S hq hr) k
theorem pminus2 : IsQ2 p_minus (· - ·) := minus_ok (F := p_frac) pfrac
theorem pminus (q r : Rat) (S : Sto) (hq : Sz 4000 q) (hr : Sz 4000 r) : p_minus [rq q, rq r] S = some (rq (q - r), S) := pminus2 q r S hq hr
theorem w_pminus {q r : Rat} {S : Sto} {Q : D → Sto → Prop} (hq : Sz 4000 q) (hr : Sz 4000 r) (k : Q (rq (q - r)) S) : wF p_minus [rq q, rq r] S Q := w_F (pminus q r S hq hr) k
theorem ptimes2 : IsQ2 p_times (· * ·) := times_ok (F := p_frac) pfrac
theorem pover (q r : Rat) (S : Sto) (hq : Sz 4000 q) (hr : Sz 4000 r) (h : r ≠ 0) : p_over [rq q, rq r] S = some (rq (q / r), S) := over_ok (F := p_frac) pfrac q r S hq hr h
theorem w_pover {q r : Rat} {S : Sto} {Q : D → Sto → Prop} (hq : Sz 4000 q) (hr : Sz 4000 r) (h : r ≠ 0) (k : Q (rq (q / r)) S) : wF p_over [rq q, rq r] S Q := w_F (pover q r S hq hr h) k
theorem psign (q : Rat) (S : Sto) : p_sign [rq q] S = some (.int (sgn q), S) := sign_ok q S
theorem pdot : IsDot p_dot := dot_ok (Fp := p_plus) (Ft := p_times) pplus2 ptimes2
/-! draws -/
theorem pd3 (a b c : Rat) : pdL 1 [rq a, rq b, rq c] = true := rfl
/-! alike -/
end ML

local macro_rules | `(tactic| array_get_dec) => `(tactic| (apply Sz.mono; (focus (repeat (first | assumption | exact sz_0 (k := 1) | exact sz_1 (k := 1) | apply sz_neg | (apply sz_over; case h => assumption) | apply sz_mul | apply sz_add | apply sz_sub))); decide))
namespace ML
open PySem PySem.Spec PyProof.Rows L2

/-! ### points and turns -/
theorem sgn_cases (q : Rat) : (sgn q = 1 ∧ 0 < q) ∨ (sgn q = 0 ∧ q = 0) ∨ (sgn q = -1 ∧ q < 0) := by
  rcases Int.lt_trichotomy q.num 0 with h | h | h
  · refine .inr (.inr ⟨?_, by rw [Rat.lt_iff]; simpa using h⟩)
    unfold sgn; rw [if_neg (by omega), if_pos h]; rfl
  · refine .inr (.inl ⟨?_, Rat.num_eq_zero.mp h⟩)
    unfold sgn; rw [h]; rfl
  · refine .inl ⟨?_, by rw [Rat.lt_iff]; simpa using h⟩
    unfold sgn; rw [if_pos h, if_neg (by omega)]; rfl
theorem sgn_zero {q : Rat} : sgn q = 0 ↔ q = 0 := by
  rcases sgn_cases q with ⟨a, b⟩ | ⟨a, b⟩ | ⟨a, b⟩ <;> rw [a]
  · exact ⟨fun h => absurd h (by decide), fun h => by grind⟩
  · exact ⟨fun _ => b, fun _ => rfl⟩
  · exact ⟨fun h => absurd h (by decide), fun h => by grind⟩
theorem sgn_neg {q : Rat} : sgn q < 0 ↔ q < 0 := by
  rcases sgn_cases q with ⟨a, b⟩ | ⟨a, b⟩ | ⟨a, b⟩ <;> rw [a]
  · exact ⟨fun h => absurd h (by decide), fun h => by grind⟩
  · exact ⟨fun h => absurd h (by decide), fun h => by grind⟩
  · exact ⟨fun _ => b, fun _ => by decide⟩
theorem w_psign {q : Rat} {S : Sto} {Q : D → Sto → Prop} (k : Q (.int (sgn q)) S) : wF p_sign [rq q] S Q := w_F (psign q S) k
theorem w_pdot {a b c x y z : Rat} {S : Sto} {Q : D → Sto → Prop} (ha : Sz 600 a) (hb : Sz 600 b) (hc : Sz 600 c) (hx : Sz 600 x) (hy : Sz 600 y) (hz : Sz 600 z) (q : Q (rq (a * x + b * y + c * z)) S) : wF p_dot [rp a b c, rp x y z] S Q := w_F (pdot a b c x y z S ha hb hc hx hy hz) q
/-- a turn: its rows -/
structure M3 where
  a : Rat
  b : Rat
  c : Rat
  d : Rat
  e : Rat
  f : Rat
  g : Rat
  h : Rat
  i : Rat
def rm (m : M3) : D := .tup [rp m.a m.b m.c, rp m.d m.e m.f, rp m.g m.h m.i]
structure M3.Z (k : Nat) (m : M3) : Prop where
  a : Sz k m.a
  b : Sz k m.b
  c : Sz k m.c
  d : Sz k m.d
  e : Sz k m.e
  f : Sz k m.f
  g : Sz k m.g
  h : Sz k m.h
  i : Sz k m.i
theorem M3.Z.mono {k l : Nat} {m : M3} (z : M3.Z k m) (h : k ≤ l) : M3.Z l m := ⟨z.a.mono h, z.b.mono h, z.c.mono h, z.d.mono h, z.e.mono h, z.f.mono h, z.g.mono h, z.h.mono h, z.i.mono h⟩
/-- a leaf -/
def rlf (name form : D) (m : M3) (x y z : Rat) : D := .tup [name, form, rm m, rp x y z]
end ML

namespace ML
open PySem PySem.Spec PyProof.Rows L2

/-- the turn that turns nothing -/
def mI : M3 := ⟨1, 0, 0, 0, 1, 0, 0, 0, 1⟩
end ML

local macro_rules | `(tactic| fail) => `(tactic| with_reducible refine w_isi (by with_unfolding_all rfl) (by first | exact kit_tt | exact kit_it | exact kit_bt | exact kit_st | exact kit_lt | exact kit_nt | exact kit_ii | exact kit_bi | exact kit_ti | exact kit_si | exact kit_ni | exact kit_ib | exact kit_bb | exact kit_tb | exact kit_sb | exact kit_nb | exact kit_ss | exact kit_is | exact kit_bs | exact kit_ts | exact kit_ns | exact kit_tl | exact kit_ll | exact kit_il | exact kit_nl) ?_)
local macro_rules | `(tactic| fail) => `(tactic| with_reducible (apply w_lnil2 srcOk_nil; (focus ((try simp only [List.nil_append, List.cons_append]); rfl))))
local macro_rules | `(tactic| fail) => `(tactic| with_reducible refine w_lcons srcOk_nil (by with_unfolding_all exact Nat.le_of_ble_eq_true rfl) ?_)
local macro_rules | `(tactic| fail) => `(tactic| with_reducible refine w_rnil srcOk_nil ?_)
local macro_rules | `(tactic| fail) => `(tactic| with_reducible refine w_eqpp ?_)
local macro_rules | `(tactic| fail) => `(tactic| with_reducible refine wSeq_t (by with_unfolding_all rfl) ?_)
local macro_rules | `(tactic| fail) => `(tactic| with_reducible refine wZip_t (by with_unfolding_all rfl) (by with_unfolding_all rfl) ?_)
local macro_rules | `(tactic| fail) => `(tactic| with_reducible refine wZip_33 ?_)
local macro_rules | `(tactic| fail) => `(tactic| with_reducible refine wI_zip2 ?_)
local macro_rules | `(tactic| fail) => `(tactic| with_reducible refine wI_seq ?_)
local macro_rules | `(tactic| fail) => `(tactic| with_reducible refine wI_r3 ?_)
local macro_rules | `(tactic| fail) => `(tactic| with_reducible refine wLi_t ?_)
local macro_rules | `(tactic| fail) => `(tactic| with_reducible refine w_uli ?_)
local macro_rules | `(tactic| fail) => `(tactic| with_reducible refine wSl_t ?_)
local macro_rules | `(tactic| fail) => `(tactic| with_reducible refine w_pow18 ?_)
local macro_rules | `(tactic| fail) => `(tactic| with_reducible refine w_onone ?_)
local macro_rules | `(tactic| fail) => `(tactic| with_reducible refine w_sl ?_)
local macro_rules | `(tactic| fail) => `(tactic| with_reducible refine w_put ?_)
local macro_rules | `(tactic| fail) => `(tactic| with_reducible refine w_gtupL (by with_unfolding_all rfl) ?_)
local macro_rules | `(tactic| fail) => `(tactic| with_reducible refine wI_u ?_)
local macro_rules | `(tactic| fail) => `(tactic| with_reducible refine kL_rt ?_)
local macro_rules | `(tactic| fail) => `(tactic| with_reducible refine kL_bk ?_)
local macro_rules | `(tactic| fail) => `(tactic| with_reducible refine kL_ct ?_)
local macro_rules | `(tactic| fail) => `(tactic| with_reducible refine kL_nx ?_)
local macro_rules | `(tactic| fail) => `(tactic| with_reducible refine wB_not ?_)
local macro_rules | `(tactic| fail) => `(tactic| with_reducible refine wB_f ?_)
local macro_rules | `(tactic| fail) => `(tactic| with_reducible refine wB_t ?_)
local macro_rules | `(tactic| fail) => `(tactic| with_reducible refine w_ct ?_)
local macro_rules | `(tactic| fail) => `(tactic| with_reducible refine w_bk ?_)
local macro_rules | `(tactic| fail) => `(tactic| with_reducible refine w_tyes ?_)
local macro_rules | `(tactic| fail) => `(tactic| with_reducible refine w_tupt ?_)
local macro_rules | `(tactic| fail) => `(tactic| with_reducible refine w_lenU ?_)
local macro_rules | `(tactic| fail) => `(tactic| with_reducible refine w_tupU ?_)
local macro_rules | `(tactic| fail) => `(tactic| with_reducible refine w_tupUp ?_)
local macro_rules | `(tactic| fail) => `(tactic| with_reducible refine w_lent ?_)
local macro_rules | `(tactic| fail) => `(tactic| with_reducible refine w_min ?_)
local macro_rules | `(tactic| fail) => `(tactic| with_reducible refine w_max ?_)
local macro_rules | `(tactic| fail) => `(tactic| with_reducible refine w_abs ?_)
local macro_rules | `(tactic| fail) => `(tactic| with_reducible refine w_intb ?_)
local macro_rules | `(tactic| fail) => `(tactic| with_reducible refine w_int ?_)
local macro_rules | `(tactic| fail) => `(tactic| with_reducible refine w_isnN (by with_unfolding_all rfl) ?_)
local macro_rules | `(tactic| fail) => `(tactic| with_reducible refine w_isN (by with_unfolding_all rfl) ?_)
local macro_rules | `(tactic| fail) => `(tactic| with_reducible refine w_ix3 ?_)
local macro_rules | `(tactic| fail) => `(tactic| with_reducible refine w_ix2 ?_)
local macro_rules | `(tactic| fail) => `(tactic| with_reducible refine w_ix1 ?_)
local macro_rules | `(tactic| fail) => `(tactic| with_reducible refine w_ix0 ?_)
local macro_rules | `(tactic| fail) => `(tactic| with_reducible refine w_ixp2 ?_)
local macro_rules | `(tactic| fail) => `(tactic| with_reducible refine w_ixp1 ?_)
local macro_rules | `(tactic| fail) => `(tactic| with_reducible refine w_ixp0 ?_)
local macro_rules | `(tactic| fail) => `(tactic| with_reducible refine w_ixq1 ?_)
local macro_rules | `(tactic| fail) => `(tactic| with_reducible refine w_ixq0 ?_)
local macro_rules | `(tactic| fail) => `(tactic| with_reducible refine w_isnNN ?_)
local macro_rules | `(tactic| fail) => `(tactic| with_reducible refine w_isNN ?_)
local macro_rules | `(tactic| fail) => `(tactic| with_reducible refine w_neb ?_)
local macro_rules | `(tactic| fail) => `(tactic| with_reducible refine w_eqb ?_)
local macro_rules | `(tactic| fail) => `(tactic| with_reducible refine w_neq ?_)
local macro_rules | `(tactic| fail) => `(tactic| with_reducible refine w_eqq ?_)
local macro_rules | `(tactic| fail) => `(tactic| with_reducible refine w_nei ?_)
local macro_rules | `(tactic| fail) => `(tactic| with_reducible refine w_eqi ?_)
local macro_rules | `(tactic| fail) => `(tactic| with_reducible refine w_cmp ?_)
local macro_rules | `(tactic| fail) => `(tactic| with_reducible refine w_neg ?_)
local macro_rules | `(tactic| fail) => `(tactic| with_reducible refine w_sub ?_)
local macro_rules | `(tactic| fail) => `(tactic| with_reducible refine w_addI ?_)
local macro_rules | `(tactic| fail) => `(tactic| with_reducible refine w_add ?_)
local macro_rules | `(tactic| fail) => `(tactic| with_reducible refine w_mt ?_)
local macro_rules | `(tactic| fail) => `(tactic| with_reducible refine w_aug (by with_unfolding_all rfl) ?_)
local macro_rules | `(tactic| fail) => `(tactic| with_reducible (apply w_ulc; (focus (repeat (first | exact WipeR.z | apply WipeR.s | exact NoneR.z | apply NoneR.s)))))
local macro_rules | `(tactic| fail) => `(tactic| with_reducible refine w_retN ?_)
local macro_rules | `(tactic| fail) => `(tactic| with_reducible refine w_expr ?_)
local macro_rules | `(tactic| fail) => `(tactic| with_reducible refine w_asgU ?_)
local macro_rules | `(tactic| fail) => `(tactic| with_reducible refine w_u ?_)
local macro_rules | `(tactic| fail) => `(tactic| with_reducible refine w_uix ?_)
local macro_rules | `(tactic| fail) => `(tactic| with_reducible refine w_ulst ?_)
local macro_rules | `(tactic| fail) => `(tactic| with_reducible refine w_own ?_)
local macro_rules | `(tactic| fail) => `(tactic| with_reducible (apply kP3_3; (focus (repeat (first | exact SetR.z | apply SetR.s))); (focus (repeat (first | exact SetR.z | apply SetR.s))); (focus (repeat (first | exact SetR.z | apply SetR.s)))))
local macro_rules | `(tactic| fail) => `(tactic| with_reducible refine w_par3 ?_)
local macro_rules | `(tactic| fail) => `(tactic| with_reducible (apply kP_2; (focus (repeat (first | exact SetR.z | apply SetR.s))); (focus (repeat (first | exact SetR.z | apply SetR.s)))))
local macro_rules | `(tactic| fail) => `(tactic| with_reducible refine w_par ?_)
local macro_rules | `(tactic| fail) => `(tactic| with_reducible refine w_gcons ?_)
local macro_rules | `(tactic| fail) => `(tactic| with_reducible refine w_gnil ?_)
local macro_rules | `(tactic| fail) => `(tactic| with_reducible refine w_gtupT (by with_unfolding_all rfl) (by with_unfolding_all rfl) ?_)
local macro_rules | `(tactic| fail) => `(tactic| with_reducible refine w_gtup (by with_unfolding_all rfl) ?_)
local macro_rules | `(tactic| fail) => `(tactic| with_reducible refine w_un ?_)
local macro_rules | `(tactic| fail) => `(tactic| with_reducible refine w_enot ?_)
local macro_rules | `(tactic| fail) => `(tactic| with_reducible refine w_eor ?_)
local macro_rules | `(tactic| fail) => `(tactic| with_reducible refine w_eand ?_)
local macro_rules | `(tactic| fail) => `(tactic| with_reducible refine w_eif ?_)
local macro_rules | `(tactic| fail) => `(tactic| with_reducible refine w_tnot ?_)
local macro_rules | `(tactic| fail) => `(tactic| with_reducible refine w_tor ?_)
local macro_rules | `(tactic| fail) => `(tactic| with_reducible refine w_tand ?_)
local macro_rules | `(tactic| fail) => `(tactic| with_reducible refine wTru_non ?_)
local macro_rules | `(tactic| fail) => `(tactic| with_reducible refine wTru_int ?_)
local macro_rules | `(tactic| fail) => `(tactic| with_reducible refine wTru_bl ?_)
local macro_rules | `(tactic| fail) => `(tactic| with_reducible refine w_tru ?_)
local macro_rules | `(tactic| fail) => `(tactic| with_reducible refine w_for ?_)
local macro_rules | `(tactic| fail) => `(tactic| with_reducible refine w_snil ?_)
local macro_rules | `(tactic| fail) => `(tactic| with_reducible refine kAB_bl ?_)
local macro_rules | `(tactic| fail) => `(tactic| with_reducible refine w_asB ?_)
local macro_rules | `(tactic| fail) => `(tactic| with_reducible refine w_ret ?_)
local macro_rules | `(tactic| fail) => `(tactic| with_reducible refine w_len ?_ (by with_unfolding_all exact Nat.le_of_ble_eq_true rfl))
local macro_rules | `(tactic| fail) => `(tactic| with_reducible refine wTup_any ?_ (by with_unfolding_all exact Nat.le_of_ble_eq_true rfl))
local macro_rules | `(tactic| fail) => `(tactic| with_reducible refine wTup_q _ ?_)
local macro_rules | `(tactic| fail) => `(tactic| with_reducible refine wTup_qm2 ?_)
local macro_rules | `(tactic| fail) => `(tactic| with_reducible refine wTup_qm1 ?_)
local macro_rules | `(tactic| fail) => `(tactic| with_reducible refine wTup_q2 ?_)
local macro_rules | `(tactic| fail) => `(tactic| with_reducible refine wTup_q1 ?_)
local macro_rules | `(tactic| fail) => `(tactic| with_reducible refine wTup_q0 ?_)
local macro_rules | `(tactic| fail) => `(tactic| with_reducible refine wTup_p ?_)
local macro_rules | `(tactic| fail) => `(tactic| with_reducible refine w_tup2 ?_)
local macro_rules | `(tactic| fail) => `(tactic| with_reducible (apply w_gname; (focus (repeat (first | exact SetR.z | apply SetR.s)))))
local macro_rules | `(tactic| fail) => `(tactic| with_reducible refine w_anil ?_)
local macro_rules | `(tactic| fail) => `(tactic| with_reducible refine w_acons ?_)
local macro_rules | `(tactic| fail) => `(tactic| with_reducible refine w_call ?_)
local macro_rules | `(tactic| fail) => `(tactic| with_reducible refine w_c ?_)
local macro_rules | `(tactic| fail) => `(tactic| with_reducible refine w_c1 ?_)
local macro_rules | `(tactic| fail) => `(tactic| with_reducible refine w_c0 ?_)
local macro_rules | `(tactic| fail) => `(tactic| with_reducible refine w_var (by with_unfolding_all rfl) ?_)
local macro_rules | `(tactic| fail) => `(tactic| with_reducible refine w_op ?_)
local macro_rules | `(tactic| fail) => `(tactic| with_reducible refine w_asg ?_)
local macro_rules | `(tactic| fail) => `(tactic| with_reducible refine kC_rt ?_)
local macro_rules | `(tactic| fail) => `(tactic| with_reducible refine kC_nx ?_)
local macro_rules | `(tactic| fail) => `(tactic| with_reducible refine w_scons ?_)
namespace ML
open PySem PySem.Spec PyProof.Rows L2

/-! ### a box along its own ray -/
def sideD (lo hi p w : Rat) : D := if w = 0 then (if lo < p ∧ p < hi then .tup [.non, .non, .bl true] else .non) else if 0 < w then .tup [rq ((lo - p) / w), rq ((hi - p) / w), .bl true] else .tup [rq ((hi - p) / w), rq ((lo - p) / w), .bl false]
theorem sub_neg {a b : Rat} : a - b < 0 ↔ a < b := by constructor <;> intro h <;> grind
theorem w_is_less {a b : Rat} {S : Sto} {Q : D → Sto → Prop} (za : Sz 4000 a) (zb : Sz 4000 b) (q : Q (.bl (decide (a < b))) S) : wF p_is_less [rq a, rq b] S Q := by
  trivial
  refine w_pminus za zb ?_
  contradiction
  refine w_psign ?_
  contradiction
  refine kR_same ?_
  have : decide (sgn (a - b) < 0) = decide (a < b) := decide_eq_decide.mpr (sgn_neg.trans sub_neg)
  rw [this]
  exact q
end ML

namespace ML
open PySem PySem.Spec PyProof.Rows L2

/-! ### a box along its own ray -/
abbrev Mt2 := (Rat × Int) × (Rat × Int)
def pr (x : Rat × Int) : D := .tup [rq x.1, .int x.2]
def ob (m : Mt2) : Ob := .lst [pr m.1, pr m.2]
def lx (S : Sto) (ms : List Mt2) : List D := (List.range ms.length).map fun j => .loc (S.length + 1 + j)
def Ms (S T : Sto) (ms : List Mt2) : Prop := T = S ++ .lst (lx S ms) :: ms.map ob
theorem Ms.at {S T : Sto} {ms : List Mt2} (h : Ms S T ms) : T[S.length]? = some (.lst (lx S ms)) := by
  rw [h, List.getElem?_append_right (Nat.le_refl _), Nat.sub_self]
  rfl
theorem Ms.len {S T : Sto} {ms : List Mt2} (h : Ms S T ms) : T.length = S.length + 1 + ms.length := by
  rw [h, List.length_append, List.length_cons, List.length_map]
  omega
theorem Ms.old {S T : Sto} {ms : List Mt2} {j : Nat} (h : Ms S T ms) (e : j < S.length) : T[j]? = S[j]? := by
  rw [h, List.getElem?_append_left e]
theorem lx_push {S : Sto} {ms : List Mt2} {m : Mt2} : lx S (ms ++ [m]) = lx S ms ++ [.loc (S.length + 1 + ms.length)] := by
  unfold lx
  rw [List.length_append, List.length_cons, List.length_nil, List.range_succ, List.map_append]
  rfl
theorem Ms.push {S T : Sto} {ms : List Mt2} {m : Mt2} (h : Ms S T ms) : Ms S ((T ++ [ob m]).set S.length (.lst (lx S ms ++ [.loc T.length]))) (ms ++ [m]) := by
  unfold Ms
  rw [lx_push, h.len, h, List.append_assoc, List.set_append_right _ _ (Nat.le_refl _), Nat.sub_self, List.cons_append, List.set_cons_zero, List.map_append]
  rfl
theorem Ms.turn {S T : Sto} {ms : List Mt2} {m m' : Mt2} (h : Ms S T (ms ++ [m])) : Ms S (T.set (S.length + 1 + ms.length) (ob m')) (ms ++ [m']) := by
  unfold Ms
  rw [h, lx_push, lx_push, List.set_append_right _ _ (by omega), show S.length + 1 + ms.length - S.length = ms.length + 1 by omega, List.set_cons_succ, List.map_append, List.map_append, List.set_append_right _ _ (by simp)]
  simp
theorem ls_of {S : Sto} {l : Nat} {xs : List D} (h : S[l]? = some (.lst xs)) : lsAt S l = some xs := by
  unfold lsAt
  rw [h]
  rfl
end ML

namespace ML
open PySem PySem.Spec PyProof.Rows L2

/-! ### a box along its own ray -/
/-- a turn's columns stand upright on each other and are of length one -/
structure M3.O (m : M3) : Prop where
  aa : m.a * m.a + m.d * m.d + m.g * m.g = 1
  bb : m.b * m.b + m.e * m.e + m.h * m.h = 1
  cc : m.c * m.c + m.f * m.f + m.i * m.i = 1
  ab : m.a * m.b + m.d * m.e + m.g * m.h = 0
  ac : m.a * m.c + m.d * m.f + m.g * m.i = 0
  bc : m.b * m.c + m.e * m.f + m.h * m.i = 0
theorem mI_O : M3.O mI := by constructor <;> (unfold mI; grind)
def M3.on (m : M3) (x y z : Rat) : Rat × Rat × Rat := (m.a * x + m.b * y + m.c * z, m.d * x + m.e * y + m.f * z, m.g * x + m.h * y + m.i * z)
def M3.mul (r m : M3) : M3 := ⟨r.a * m.a + r.b * m.d + r.c * m.g, r.a * m.b + r.b * m.e + r.c * m.h, r.a * m.c + r.b * m.f + r.c * m.i,
  r.d * m.a + r.e * m.d + r.f * m.g, r.d * m.b + r.e * m.e + r.f * m.h, r.d * m.c + r.e * m.f + r.f * m.i,
  r.g * m.a + r.h * m.d + r.i * m.g, r.g * m.b + r.h * m.e + r.i * m.h, r.g * m.c + r.h * m.f + r.i * m.i⟩
theorem dot_id (a b c d e f g h i x y z u v w : Rat) : (a * x + b * y + c * z) * (a * u + b * v + c * w) + (d * x + e * y + f * z) * (d * u + e * v + f * w) + (g * x + h * y + i * z) * (g * u + h * v + i * w)
    = x * u * (a * a + d * d + g * g) + y * v * (b * b + e * e + h * h) + z * w * (c * c + f * f + i * i) + (x * v + y * u) * (a * b + d * e + g * h) + (x * w + z * u) * (a * c + d * f + g * i) + (y * w + z * v) * (b * c + e * f + h * i) := by grind
theorem M3.O.dot {m : M3} (o : m.O) (x y z u v w : Rat) : (m.a * x + m.b * y + m.c * z) * (m.a * u + m.b * v + m.c * w) + (m.d * x + m.e * y + m.f * z) * (m.d * u + m.e * v + m.f * w) + (m.g * x + m.h * y + m.i * z) * (m.g * u + m.h * v + m.i * w) = x * u + y * v + z * w := by
  rw [dot_id, o.aa, o.bb, o.cc, o.ab, o.ac, o.bc]
  grind
theorem M3.O.mul {r m : M3} (o : r.O) (p : m.O) : (r.mul m).O := by
  refine ⟨?_, ?_, ?_, ?_, ?_, ?_⟩
  · exact (o.dot ..).trans p.aa
  · exact (o.dot ..).trans p.bb
  · exact (o.dot ..).trans p.cc
  · exact (o.dot ..).trans p.ab
  · exact (o.dot ..).trans p.ac
  · exact (o.dot ..).trans p.bc
/-- turned and turned back -/
theorem M3.O.back {m : M3} (o : m.O) (x y z : Rat) : m.a * (m.a * x + m.b * y + m.c * z) + m.d * (m.d * x + m.e * y + m.f * z) + m.g * (m.g * x + m.h * y + m.i * z) = x
    ∧ m.b * (m.a * x + m.b * y + m.c * z) + m.e * (m.d * x + m.e * y + m.f * z) + m.h * (m.g * x + m.h * y + m.i * z) = y
    ∧ m.c * (m.a * x + m.b * y + m.c * z) + m.f * (m.d * x + m.e * y + m.f * z) + m.i * (m.g * x + m.h * y + m.i * z) = z := by
  have h1 := o.dot 1 0 0 x y z
  have h2 := o.dot 0 1 0 x y z
  have h3 := o.dot 0 0 1 x y z
  refine ⟨?_, ?_, ?_⟩
  · grind
  · grind
  · grind
/-- an entry in whole shares of D -/
def In (D : Int) (q : Rat) : Prop := ∃ n : Int, q * D = n
structure M3.I (D : Int) (m : M3) : Prop where
  a : In D m.a
  b : In D m.b
  c : In D m.c
  d : In D m.d
  e : In D m.e
  f : In D m.f
  g : In D m.g
  h : In D m.h
  i : In D m.i
theorem In.dot {D E : Int} {a b c x y z : Rat} (ha : In D a) (hb : In D b) (hc : In D c) (hx : In E x) (hy : In E y) (hz : In E z) : In (D * E) (a * x + b * y + c * z) := by
  obtain ⟨na, ha⟩ := ha
  obtain ⟨nb, hb⟩ := hb
  obtain ⟨nc, hc⟩ := hc
  obtain ⟨nx, hx⟩ := hx
  obtain ⟨ny, hy⟩ := hy
  obtain ⟨nz, hz⟩ := hz
  refine ⟨na * nx + nb * ny + nc * nz, ?_⟩
  push_cast
  rw [← ha, ← hb, ← hc, ← hx, ← hy, ← hz]
  grind
theorem M3.I.mul {D E : Int} {r m : M3} (o : r.I D) (p : m.I E) : (r.mul m).I (D * E) :=
  ⟨.dot o.a o.b o.c p.a p.d p.g, .dot o.a o.b o.c p.b p.e p.h, .dot o.a o.b o.c p.c p.f p.i, .dot o.d o.e o.f p.a p.d p.g, .dot o.d o.e o.f p.b p.e p.h, .dot o.d o.e o.f p.c p.f p.i, .dot o.g o.h o.i p.a p.d p.g, .dot o.g o.h o.i p.b p.e p.h, .dot o.g o.h o.i p.c p.f p.i⟩
theorem sq_le {a b c : Rat} (h : a * a + b * b + c * c = 1) : -1 ≤ a ∧ a ≤ 1 := by
  have sq : ∀ a : Rat, 0 ≤ a * a := fun a => by
    rcases Rat.le_total (a := 0) (b := a) with h | h
    · exact Rat.mul_nonneg h h
    · have := Rat.mul_nonneg (a := -a) (b := -a) (by grind) (by grind)
      grind
  have h1 := sq b
  have h2 := sq c
  constructor
  · refine Rat.not_lt.mp fun c => ?_
    have := Rat.mul_pos (a := -1 - a) (b := 1 - a) (by grind) (by grind)
    grind
  · refine Rat.not_lt.mp fun c => ?_
    have := Rat.mul_pos (a := a - 1) (b := a + 1) (by grind) (by grind)
    grind
theorem In.nat {D : Int} {q : Rat} (h : In D q) (hD : 0 < D) (h1 : -1 ≤ q) (h2 : q ≤ 1) : ∃ n : Int, q * D = n ∧ n.natAbs ≤ D.natAbs := by
  obtain ⟨n, e⟩ := h
  refine ⟨n, e, ?_⟩
  have hd : (0 : Rat) < (D : Rat) := Rat.intCast_pos.mpr hD
  have a1 : (n : Rat) ≤ (D : Rat) := by
    have := Rat.mul_nonneg (a := 1 - q) (b := D) (by grind) (by grind)
    grind
  have a2 : ((-D : Int) : Rat) ≤ (n : Rat) := by
    have := Rat.mul_nonneg (a := 1 + q) (b := D) (by grind) (by grind)
    push_cast
    grind
  have b1 := Rat.intCast_le_intCast.mp a1
  have b2 := Rat.intCast_le_intCast.mp a2
  omega
theorem M3.O.le {m : M3} (o : m.O) : (-1 ≤ m.a ∧ m.a ≤ 1) ∧ (-1 ≤ m.b ∧ m.b ≤ 1) ∧ (-1 ≤ m.c ∧ m.c ≤ 1) ∧ (-1 ≤ m.d ∧ m.d ≤ 1) ∧ (-1 ≤ m.e ∧ m.e ≤ 1) ∧ (-1 ≤ m.f ∧ m.f ≤ 1) ∧ (-1 ≤ m.g ∧ m.g ≤ 1) ∧ (-1 ≤ m.h ∧ m.h ≤ 1) ∧ (-1 ≤ m.i ∧ m.i ≤ 1) := by
  have h1 := o.aa
  have h2 := o.bb
  have h3 := o.cc
  exact ⟨sq_le h1, sq_le h2, sq_le h3, sq_le (b := m.a) (c := m.g) (by grind), sq_le (b := m.b) (c := m.h) (by grind), sq_le (b := m.c) (c := m.i) (by grind), sq_le (b := m.a) (c := m.d) (by grind), sq_le (b := m.b) (c := m.e) (by grind), sq_le (b := m.c) (c := m.f) (by grind)⟩
/-- what a turn is: of shares of less than 2 ^ n -/
structure M3.T (n : Nat) (m : M3) : Prop where
  o : m.O
  k : ∃ D : Int, 0 < D ∧ D < 2 ^ n ∧ m.I D
theorem In.sh {D : Int} {q : Rat} {n : Nat} (h : In D q) (h0 : 0 < D) (hD : D < 2 ^ n) (hn : 0 < n) (b : -1 ≤ q ∧ q ≤ 1) : ∃ r : Rat, q = r * (1 / (D : Rat)) ∧ Sz n r := by
  obtain ⟨k, e, hk⟩ := h.nat h0 b.1 b.2
  have hd : (0 : Rat) < (D : Rat) := Rat.intCast_pos.mpr h0
  have h2 : D.natAbs < 2 ^ n := by
    have e : ((2 ^ n : Nat) : Int) = 2 ^ n := by push_cast; rfl
    omega
  refine ⟨k, ?_, sz_int (Nat.lt_of_le_of_lt hk h2) hn⟩
  rw [← e, Rat.mul_assoc, Rat.div_def, Rat.one_mul, Rat.mul_inv_cancel _ (by grind), Rat.mul_one]
theorem sh_D {D : Int} {n : Nat} (h0 : 0 < D) (hD : D < 2 ^ n) (hn : 0 < n) : Sz (n + 1) (1 / (D : Rat)) := by
  have hd : (0 : Rat) < (D : Rat) := Rat.intCast_pos.mpr h0
  have h2 : D.natAbs < 2 ^ n := by
    have e : ((2 ^ n : Nat) : Int) = 2 ^ n := by push_cast; rfl
    omega
  exact (sz_over (sz_1 (k := 1)) (sz_int h2 hn) (by grind)).mono (by omega)
theorem M3.T.z {m : M3} {n : Nat} (t : m.T n) (hn : 0 < n := by decide) : M3.Z (2 * n + 1) m := by
  obtain ⟨o, D, h0, hD, i⟩ := t
  obtain ⟨b1, b2, b3, b4, b5, b6, b7, b8, b9⟩ := o.le
  have hd := sh_D h0 hD hn
  have f : ∀ {q : Rat}, In D q → -1 ≤ q ∧ q ≤ 1 → Sz (2 * n + 1) q := fun h b => by
    obtain ⟨r, e, z⟩ := h.sh h0 hD hn b
    rw [e]
    exact (sz_mul z hd).mono (by omega)
  exact ⟨f i.a b1, f i.b b2, f i.c b3, f i.d b4, f i.e b5, f i.f b6, f i.g b7, f i.h b8, f i.i b9⟩
theorem In.dotz {D : Int} {n k : Nat} {a b c x y z : Rat} (h0 : 0 < D) (hD : D < 2 ^ n) (hn : 0 < n) (ha : In D a) (hb : In D b) (hc : In D c) (la : -1 ≤ a ∧ a ≤ 1) (lb : -1 ≤ b ∧ b ≤ 1) (lc : -1 ≤ c ∧ c ≤ 1) (zx : Sz k x) (zy : Sz k y) (zz : Sz k z) : Sz (3 * k + 4 * n + 3) (a * x + b * y + c * z) := by
  obtain ⟨r1, e1, z1⟩ := ha.sh h0 hD hn la
  obtain ⟨r2, e2, z2⟩ := hb.sh h0 hD hn lb
  obtain ⟨r3, e3, z3⟩ := hc.sh h0 hD hn lc
  have hd := sh_D h0 hD hn
  rw [e1, e2, e3, show r1 * (1 / (D : Rat)) * x + r2 * (1 / (D : Rat)) * y + r3 * (1 / (D : Rat)) * z = (r1 * x + r2 * y + r3 * z) * (1 / (D : Rat)) by generalize 1 / (D : Rat) = v; grind]
  exact (sz_mul (sz_add (sz_add (sz_mul z1 zx) (sz_mul z2 zy)) (sz_mul z3 zz)) hd).mono (by omega)
theorem M3.T.on {m : M3} {n k : Nat} (t : m.T n) {x y z : Rat} (zx : Sz k x) (zy : Sz k y) (zz : Sz k z) (hn : 0 < n := by decide) : Sz (3 * k + 4 * n + 3) (m.a * x + m.b * y + m.c * z) ∧ Sz (3 * k + 4 * n + 3) (m.d * x + m.e * y + m.f * z) ∧ Sz (3 * k + 4 * n + 3) (m.g * x + m.h * y + m.i * z) := by
  obtain ⟨o, D, h0, hD, i⟩ := t
  obtain ⟨b1, b2, b3, b4, b5, b6, b7, b8, b9⟩ := o.le
  exact ⟨In.dotz h0 hD hn i.a i.b i.c b1 b2 b3 zx zy zz, In.dotz h0 hD hn i.d i.e i.f b4 b5 b6 zx zy zz, In.dotz h0 hD hn i.g i.h i.i b7 b8 b9 zx zy zz⟩
theorem M3.T.mul {r m : M3} {n k l : Nat} (t : r.T n) (u : m.T k) (h : n + k = l) : (r.mul m).T l := by
  obtain ⟨o, D, h0, hD, i⟩ := t
  obtain ⟨p, E, g0, gE, j⟩ := u
  refine ⟨o.mul p, D * E, Int.mul_pos h0 g0, ?_, i.mul j⟩
  subst h
  rw [Int.pow_add]
  have e1 : (0 : Int) < 2 ^ n := Int.pow_pos (by decide)
  have a := Int.mul_lt_mul_of_pos_left gE h0
  have b := Int.mul_lt_mul_of_pos_right hD (show (0 : Int) < 2 ^ k from Int.pow_pos (by decide))
  omega
theorem mI_T : mI.T 1 := ⟨mI_O, 1, by decide, by decide, ⟨⟨1, by unfold mI; grind⟩, ⟨0, by unfold mI; grind⟩, ⟨0, by unfold mI; grind⟩, ⟨0, by unfold mI; grind⟩, ⟨1, by unfold mI; grind⟩, ⟨0, by unfold mI; grind⟩, ⟨0, by unfold mI; grind⟩, ⟨0, by unfold mI; grind⟩, ⟨1, by unfold mI; grind⟩⟩⟩
end ML

namespace ML
open PySem PySem.Spec PyProof.Rows L2

/-! ### a box along its own ray -/
def tnA (c s : Rat) : M3 := ⟨1, 0, 0, 0, c, -s, 0, s, c⟩
def tnB (c s : Rat) : M3 := ⟨c, 0, s, 0, 1, 0, -s, 0, c⟩
def tnC (c s : Rat) : M3 := ⟨c, -s, 0, s, c, 0, 0, 0, 1⟩
def rows (r : M3) : List D := [rp r.a r.b r.c, rp r.d r.e r.f, rp r.g r.h r.i]
theorem In.i {D : Int} (k : Int) : In D (k : Rat) := ⟨k * D, by push_cast; rfl⟩
theorem In.neg {D : Int} {q : Rat} (h : In D q) : In D (-q) := by
  obtain ⟨n, e⟩ := h
  exact ⟨-n, by push_cast; rw [← e]; grind⟩
theorem r_T {c s : Rat} {D : Int} (e : c * c + s * s = 1) (h0 : 0 < D) (hD : D < 2 ^ 4) (hc : In D c) (hs : In D s) : (tnA c s).T 4 ∧ (tnB c s).T 4 ∧ (tnC c s).T 4 := by
  have i0 : In D 0 := ⟨0, by push_cast; grind⟩
  have i1 : In D 1 := ⟨D, by grind⟩
  unfold tnA tnB tnC
  exact ⟨⟨⟨by grind, by grind, by grind, by grind, by grind, by grind⟩, D, h0, hD, i1, i0, i0, i0, hc, hs.neg, i0, hs, hc⟩,
    ⟨⟨by grind, by grind, by grind, by grind, by grind, by grind⟩, D, h0, hD, hc, i0, hs, i0, i1, i0, hs.neg, i0, hc⟩,
    ⟨⟨by grind, by grind, by grind, by grind, by grind, by grind⟩, D, h0, hD, hc, hs.neg, i0, hs, hc, i0, i0, i0, i1⟩⟩
theorem two_le {a b : Nat} (h : a ≤ b) : (2 : Int) ^ a ≤ 2 ^ b := by
  have := Nat.pow_le_pow_right (n := 2) (by decide) h
  have e1 : ((2 ^ a : Nat) : Int) = 2 ^ a := by push_cast; rfl
  have e2 : ((2 ^ b : Nat) : Int) = 2 ^ b := by push_cast; rfl
  omega
end ML

namespace ML
open PySem PySem.Spec PyProof.Rows L2

/-! ### a box along its own ray -/
theorem sqD_p {a b c : Rat} {S : Sto} : sqD S (rp a b c) = some ([rq a, rq b, rq c], []) := rfl
end ML

namespace ML
open PySem PySem.Spec PyProof.Rows L2

/-! ### a box along its own ray -/
theorem M3.O.slid {m : M3} (o : m.O) (x y z a b c : Rat) : m.a * (m.a * x + m.b * y + m.c * z + a - a) + m.d * (m.d * x + m.e * y + m.f * z + b - b) + m.g * (m.g * x + m.h * y + m.i * z + c - c) = x
    ∧ m.b * (m.a * x + m.b * y + m.c * z + a - a) + m.e * (m.d * x + m.e * y + m.f * z + b - b) + m.h * (m.g * x + m.h * y + m.i * z + c - c) = y
    ∧ m.c * (m.a * x + m.b * y + m.c * z + a - a) + m.f * (m.d * x + m.e * y + m.f * z + b - b) + m.i * (m.g * x + m.h * y + m.i * z + c - c) = z := by
  have e : ∀ p q : Rat, p + q - q = p := fun p q => by grind
  rw [e, e, e]
  exact o.back x y z
end ML

namespace ML
open PySem PySem.Spec PyProof.Rows L2

/-! ### a box along its own ray -/
theorem w_turned {m : M3} {x y z : Rat} {S : Sto} {Q : D → Sto → Prop} (hm : M3.Z 600 m) (hx : Sz 600 x) (hy : Sz 600 y) (hz : Sz 600 z)
    (q : Q (rp (m.a * x + m.b * y + m.c * z) (m.d * x + m.e * y + m.f * z) (m.g * x + m.h * y + m.i * z)) S) : wF p_turned [rm m, rp x y z] S Q := by
  trivial
  refine w_pdot hm.a hm.b hm.c hx hy hz ?_
  contradiction
  refine w_pdot hm.d hm.e hm.f hx hy hz ?_
  contradiction
  refine w_pdot hm.g hm.h hm.i hx hy hz ?_
  contradiction
  exact kR_same q
theorem w_added {a b c x y z : Rat} {S : Sto} {Q : D → Sto → Prop} (ha : Sz 1900 a) (hb : Sz 1900 b) (hc : Sz 1900 c) (hx : Sz 1900 x) (hy : Sz 1900 y) (hz : Sz 1900 z) (q : Q (rp (a + x) (b + y) (c + z)) S) : wF p_added [rp a b c, rp x y z] S Q := by
  trivial
  refine w_pplus (ha.mono (by decide)) (hx.mono (by decide)) ?_
  contradiction
  refine w_pplus (hb.mono (by decide)) (hy.mono (by decide)) ?_
  contradiction
  refine w_pplus (hc.mono (by decide)) (hz.mono (by decide)) ?_
  contradiction
  exact kR_same q
/-- a leaf as it stands -/
structure Lf where
  nm : D
  fm : D
  m : M3
  x : Rat
  y : Rat
  z : Rat
def Lf.d (f : Lf) : D := rlf f.nm f.fm f.m f.x f.y f.z
structure Lf.Z (f : Lf) : Prop where
  m : M3.Z 600 f.m
  x : Sz 600 f.x
  y : Sz 600 f.y
  z : Sz 600 f.z
def Lf.add (f : Lf) (a b c : Rat) : Lf := ⟨f.nm, f.fm, f.m, f.x + a, f.y + b, f.z + c⟩
def Lf.turn (f : Lf) (r : M3) : Lf := ⟨f.nm, f.fm, r.mul f.m, r.a * f.x + r.b * f.y + r.c * f.z, r.d * f.x + r.e * f.y + r.f * f.z, r.g * f.x + r.h * f.y + r.i * f.z⟩
/-- a shape's thing -/
def shOk : D → Bool
  | .int i => decide (0 ≤ i ∧ i ≤ 1000)
  | .str x => x == "join" || x == "cut" || x == "meet"
  | _ => false
def mv (n : Int) : D → D
  | .int i => .int (i + n)
  | d => d
end ML

namespace ML
open PySem PySem.Spec PyProof.Rows L2

/-! ### a box along its own ray -/
inductive Bd where
  | base (fm : D)
  | slide (n : Nat) (a b c : Rat)
  | turn (n : Nat) (ax : Str) (c s : Rat)
  | two (w : Str) (m n : Nat)
def Bd.d : Bd → D
  | .base fm => fm
  | .slide n a b c => .tup [.str "slide", .int n, rp a b c]
  | .turn n ax c s => .tup [.str "turn", .int n, .str ax, rq c, rq s]
  | .two w m n => .tup [.str w, .int m, .int n]
def tnAx (ax : Str) (c s : Rat) : M3 := if ax = "x" then tnA c s else if ax = "y" then tnB c s else tnC c s
/-- a body laid out -/
def lay (bs : List (D × Bd)) : Nat → Nat → Option (List Lf × List D)
  | 0, _ => none
  | k + 1, n => (bs[n]?).bind fun b => match b.2 with
    | .base fm => some ([⟨b.1, fm, mI, 0, 0, 0⟩], [.int 0])
    | .slide m x y z => (lay bs k m).map fun p => (p.1.map fun f => f.add x y z, p.2)
    | .turn m ax c s => (lay bs k m).map fun p => (p.1.map fun f => f.turn (tnAx ax c s), p.2)
    | .two w m l => (lay bs k m).bind fun p => (lay bs k l).map fun q => (p.1 ++ q.1, p.2 ++ q.2.map (mv p.1.length) ++ [.str w])
/-- what a scene's bodies must be -/
structure Good (bs : List (D × Bd)) : Prop where
  bd : ∀ (n : Nat) (b : D × Bd), bs[n]? = some b → match b.2 with
    | .base fm => (∃ w fs, fm = .tup (.str w :: fs) ∧ (w = "box" ∨ w = "ball" ∨ w = "half")) ∧ fm.bel 0 = true ∧ b.1.bel 0 = true
    | .slide _ a b c => Sz 600 a ∧ Sz 600 b ∧ Sz 600 c
    | .turn _ ax c s => (ax = "x" ∨ ax = "y" ∨ ax = "z") ∧ Sz 100 c ∧ Sz 100 s ∧ M3.Z 600 (tnAx ax c s)
    | .two w _ _ => w = "join" ∨ w = "cut" ∨ w = "meet"
  len : bs.length ≤ 900
  ly : ∀ (k n : Nat) (ls : List Lf) (sh : List D), lay bs k n = some (ls, sh) → (∀ f ∈ ls, f.Z) ∧ ls.length ≤ 400 ∧ sh.length ≤ 400 ∧ ∀ d ∈ sh, shOk d = true
end ML

namespace ML
open PySem PySem.Spec PyProof.Rows L2

/-! ### the shares and sizes of what is slid and turned -/
theorem in_sz {E : Int} {q : Rat} {B n m : Nat} (h : In E q) (h0 : 0 < E) (hE : E < 2 ^ n) (hn : 0 < n) (b : -(B : Rat) ≤ q ∧ q ≤ (B : Rat)) (hB : B < 2 ^ m) : Sz (m + 2 * n + 1) q := by
  obtain ⟨k, e⟩ := h
  have hd : (0 : Rat) < (E : Rat) := Rat.intCast_pos.mpr h0
  have a1 : (k : Rat) ≤ (((B : Int) * E : Int) : Rat) := by
    have := Rat.mul_nonneg (a := (B : Rat) - q) (b := E) (by grind) (by grind)
    push_cast
    grind
  have a2 : ((-((B : Int) * E) : Int) : Rat) ≤ (k : Rat) := by
    have := Rat.mul_nonneg (a := (B : Rat) + q) (b := E) (by grind) (by grind)
    push_cast
    grind
  have b1 := Rat.intCast_le_intCast.mp a1
  have b2 := Rat.intCast_le_intCast.mp a2
  have e2 : ((2 ^ n : Nat) : Int) = 2 ^ n := by push_cast; rfl
  have h2 : E.natAbs < 2 ^ n := by omega
  have h3 : k.natAbs < 2 ^ (m + n) := by
    have e3 : (B : Int) * E = ((B * E.natAbs : Nat) : Int) := by
      rw [Int.natCast_mul, Int.natAbs_of_nonneg (by omega)]
    rw [e3] at b1 b2
    have h5 : k.natAbs ≤ B * E.natAbs := by omega
    rw [Nat.pow_add]
    exact Nat.lt_of_le_of_lt h5 (Nat.mul_lt_mul'' hB h2)
  have hd1 := sh_D h0 hE hn
  rw [show q = (k : Rat) * (1 / (E : Rat)) from by rw [← e, Rat.mul_assoc, Rat.div_def, Rat.one_mul, Rat.mul_inv_cancel _ (by grind), Rat.mul_one]]
  exact (sz_mul (sz_int h3 (by omega)) hd1).mono (by omega)
def Bn (k : Nat) (q : Rat) : Prop := -((2 ^ (2 * k + 4) : Nat) : Rat) ≤ q ∧ q ≤ ((2 ^ (2 * k + 4) : Nat) : Rat)
theorem bn_four (k : Nat) : ((2 ^ (2 * (k + 1) + 4) : Nat) : Rat) = 4 * ((2 ^ (2 * k + 4) : Nat) : Rat) := by
  rw [show 2 * (k + 1) + 4 = 2 * k + 4 + 2 from by omega, Nat.pow_add]
  push_cast
  grind
theorem bn_one (k : Nat) : (16 : Rat) ≤ ((2 ^ (2 * k + 4) : Nat) : Rat) := by
  have : 16 ≤ 2 ^ (2 * k + 4) := by
    rw [Nat.pow_add]
    have := Nat.one_le_two_pow (n := 2 * k)
    omega
  exact_mod_cast Rat.natCast_le_natCast.mpr this
theorem In.mulL {D E : Int} {q : Rat} (h : In D q) : In (D * E) q := by
  obtain ⟨n, e⟩ := h
  exact ⟨n * E, by push_cast; rw [← e]; grind⟩
theorem In.add {D : Int} {q r : Rat} (h : In D q) (k : In D r) : In D (q + r) := by
  obtain ⟨n, e⟩ := h
  obtain ⟨m, f⟩ := k
  exact ⟨n + m, by push_cast; rw [← e, ← f]; grind⟩
/-- a point so many slides and turns behind one of nought and one -/
structure PtI (k : Nat) (x y z : Rat) : Prop where
  ex : ∃ D : Int, 0 < D ∧ D < 2 ^ (4 * k + 1) ∧ In (42 * D) x ∧ In (42 * D) y ∧ In (42 * D) z
  bx : Bn k x
  b_y : Bn k y
  bz : Bn k z
theorem PtI.z {k : Nat} {x y z : Rat} (h : PtI k x y z) (hk : k ≤ 12) : Sz 140 x ∧ Sz 140 y ∧ Sz 140 z := by
  obtain ⟨⟨D, h0, hD, ix, iy, iz⟩, bx, b_y, bz⟩ := h
  have e : (42 * D : Int) < 2 ^ (4 * k + 7) := by
    rw [show 4 * k + 7 = (4 * k + 1) + 6 from by omega, Int.pow_add]
    have : (2 : Int) ^ 6 = 64 := by decide
    omega
  have hB : 2 ^ (2 * k + 4) < 2 ^ (2 * k + 5) := Nat.pow_lt_pow_right (by decide) (by omega)
  exact ⟨(in_sz ix (by omega) e (by omega) bx hB).mono (by omega), (in_sz iy (by omega) e (by omega) b_y hB).mono (by omega), (in_sz iz (by omega) e (by omega) bz hB).mono (by omega)⟩
theorem mul_bn {a x B : Rat} (h : -1 ≤ a ∧ a ≤ 1) (k : -B ≤ x ∧ x ≤ B) : -B ≤ a * x ∧ a * x ≤ B := by
  have h1 := Rat.mul_nonneg (a := 1 - a) (b := B + x) (by grind) (by grind)
  have h2 := Rat.mul_nonneg (a := 1 + a) (b := B - x) (by grind) (by grind)
  have h3 := Rat.mul_nonneg (a := 1 - a) (b := B - x) (by grind) (by grind)
  have h4 := Rat.mul_nonneg (a := 1 + a) (b := B + x) (by grind) (by grind)
  constructor <;> grind
theorem dot_bn {k : Nat} {a b c x y z : Rat} (ha : -1 ≤ a ∧ a ≤ 1) (hb : -1 ≤ b ∧ b ≤ 1) (hc : -1 ≤ c ∧ c ≤ 1) (hx : Bn k x) (hy : Bn k y) (hz : Bn k z) : Bn (k + 1) (a * x + b * y + c * z) := by
  have h1 := mul_bn ha hx
  have h2 := mul_bn hb hy
  have h3 := mul_bn hc hz
  have h4 := bn_one k
  unfold Bn
  rw [bn_four]
  constructor <;> grind
theorem PtI.add {k : Nat} {x y z a b c : Rat} (h : PtI k x y z) (i : In 42 a ∧ In 42 b ∧ In 42 c) (ba : Bn 0 a) (bb : Bn 0 b) (bc : Bn 0 c) : PtI (k + 1) (x + a) (y + b) (z + c) := by
  obtain ⟨⟨D, h0, hD, ix, iy, iz⟩, bx, b_y, bz⟩ := h
  have st : ∀ {q r : Rat}, Bn k q → Bn 0 r → Bn (k + 1) (q + r) := by
    intro q r h1 h2
    have h4 := bn_one k
    unfold Bn at *
    rw [bn_four]
    have : ((2 ^ (2 * 0 + 4) : Nat) : Rat) = 16 := by decide +kernel
    rw [this] at h2
    constructor <;> grind
  exact ⟨⟨D, h0, Int.lt_of_lt_of_le hD (two_le (by omega)), ix.add i.1.mulL, iy.add i.2.1.mulL, iz.add i.2.2.mulL⟩, st bx ba, st b_y bb, st bz bc⟩
theorem PtI.turn {k : Nat} {x y z : Rat} {r : M3} (h : PtI k x y z) (t : r.T 4) : PtI (k + 1) (r.a * x + r.b * y + r.c * z) (r.d * x + r.e * y + r.f * z) (r.g * x + r.h * y + r.i * z) := by
  obtain ⟨⟨D, h0, hD, ix, iy, iz⟩, bx, b_y, bz⟩ := h
  obtain ⟨o, E, e0, hE, i⟩ := t
  obtain ⟨b1, b2, b3, b4, b5, b6, b7, b8, b9⟩ := o.le
  have em : E * (42 * D) = 42 * (E * D) := by rw [← Int.mul_assoc, Int.mul_comm E 42, Int.mul_assoc]
  have l : E * D < 2 ^ (4 * (k + 1) + 1) := by
    rw [show 4 * (k + 1) + 1 = 4 + (4 * k + 1) from by omega, Int.pow_add]
    have a := Int.mul_lt_mul_of_pos_left hD e0
    have b := Int.mul_lt_mul_of_pos_right hE (show (0 : Int) < 2 ^ (4 * k + 1) from Int.pow_pos (by decide))
    omega
  refine ⟨⟨E * D, Int.mul_pos e0 h0, l, ?_, ?_, ?_⟩, dot_bn b1 b2 b3 bx b_y bz, dot_bn b4 b5 b6 bx b_y bz, dot_bn b7 b8 b9 bx b_y bz⟩
  · rw [← em]; exact In.dot i.a i.b i.c ix iy iz
  · rw [← em]; exact In.dot i.d i.e i.f ix iy iz
  · rw [← em]; exact In.dot i.g i.h i.i ix iy iz
/-- a right slide or turn -/
def GW : Bd → Prop
  | .slide _ a b c => (In 42 a ∧ In 42 b ∧ In 42 c) ∧ Bn 0 a ∧ Bn 0 b ∧ Bn 0 c
  | .turn _ ax c s => (ax = "x" ∨ ax = "y" ∨ ax = "z") ∧ c * c + s * s = 1 ∧ ∃ D : Int, 0 < D ∧ D < 2 ^ 4 ∧ In D c ∧ In D s
  | _ => False
theorem tnAx_T {ax : Str} {c s : Rat} (h : c * c + s * s = 1 ∧ ∃ D : Int, 0 < D ∧ D < 2 ^ 4 ∧ In D c ∧ In D s) : (tnAx ax c s).T 4 := by
  obtain ⟨e, D, h0, hD, hc, hs⟩ := h
  obtain ⟨a, b, c⟩ := r_T e h0 hD hc hs
  unfold tnAx
  split
  · exact a
  · split
    · exact b
    · exact c
theorem slide_z {a : Rat} (i : In 42 a) (b : Bn 0 a) : Sz 20 a := by
  have hB : 2 ^ (2 * 0 + 4) < 2 ^ 5 := by decide
  exact (in_sz (n := 6) i (by decide) (by decide) (by decide) b hB).mono (by decide)
theorem cs_z {c s : Rat} (h : c * c + s * s = 1) {D : Int} (h0 : 0 < D) (hD : D < 2 ^ 4) (hc : In D c) (hs : In D s) : Sz 20 c ∧ Sz 20 s := by
  have b1 := sq_le (a := c) (b := s) (c := 0) (by grind)
  have b2 := sq_le (a := s) (b := c) (c := 0) (by grind)
  have o : ((1 : Nat) : Rat) = 1 := rfl
  exact ⟨(in_sz (n := 4) (B := 1) (m := 1) hc h0 hD (by decide) (by rw [o]; exact b1) (by decide)).mono (by decide), (in_sz (n := 4) (B := 1) (m := 1) hs h0 hD (by decide) (by rw [o]; exact b2) (by decide)).mono (by decide)⟩
/-- where a slide or a turn leaves a point -/
def way (b : Bd) (p : Rat × Rat × Rat) : Rat × Rat × Rat := match b with
  | .slide _ x y z => (p.1 + x, p.2.1 + y, p.2.2 + z)
  | .turn _ ax c s => (tnAx ax c s).on p.1 p.2.1 p.2.2
  | _ => p
def stands (ws : List Bd) (p : Rat × Rat × Rat) : Rat × Rat × Rat := ws.foldl (fun p b => way b p) p
theorem way_I {k : Nat} {b : Bd} {p : Rat × Rat × Rat} (g : GW b) (h : PtI k p.1 p.2.1 p.2.2) : PtI (k + 1) (way b p).1 (way b p).2.1 (way b p).2.2 := by
  cases b with
  | slide n x y z => exact h.add g.1 g.2.1 g.2.2.1 g.2.2.2
  | turn n ax c s => exact h.turn (tnAx_T g.2)
  | base _ => exact absurd g id
  | two _ _ _ => exact absurd g id
theorem stands_I : ∀ {ws : List Bd} {k : Nat} {p : Rat × Rat × Rat}, (∀ w ∈ ws, GW w) → PtI k p.1 p.2.1 p.2.2 → PtI (k + ws.length) (stands ws p).1 (stands ws p).2.1 (stands ws p).2.2
  | [], _, _, _, h => h
  | w :: ws, k, p, g, h => by
    have := stands_I (ws := ws) (fun v hv => g v (List.mem_cons_of_mem _ hv)) (way_I (g w (List.mem_cons_self ..)) h)
    rw [show k + (w :: ws).length = k + 1 + ws.length from by simp; omega]
    exact this
theorem pt_0 {x y z : Rat} (hx : x = 0 ∨ x = 1) (hy : y = 0 ∨ y = 1) (hz : z = 0 ∨ z = 1) : PtI 0 x y z := by
  have i : ∀ {q : Rat}, q = 0 ∨ q = 1 → In (42 * 1) q := fun h => by
    rcases h with rfl | rfl
    · exact ⟨0, by decide +kernel⟩
    · exact ⟨42, by decide +kernel⟩
  have b : ∀ {q : Rat}, q = 0 ∨ q = 1 → Bn 0 q := fun h => by
    rcases h with rfl | rfl <;> exact ⟨by decide +kernel, by decide +kernel⟩
  exact ⟨⟨1, by decide, by decide, i hx, i hy, i hz⟩, b hx, b hy, b hz⟩
/-! ### a leaf by its ways -/
def Lf.step (f : Lf) : Bd → Lf
  | .slide _ a b c => f.add a b c
  | .turn _ ax c s => f.turn (tnAx ax c s)
  | _ => f
def Lf.im (f : Lf) (p : Rat × Rat × Rat) : Rat × Rat × Rat := (f.m.a * p.1 + f.m.b * p.2.1 + f.m.c * p.2.2 + f.x, f.m.d * p.1 + f.m.e * p.2.1 + f.m.f * p.2.2 + f.y, f.m.g * p.1 + f.m.h * p.2.1 + f.m.i * p.2.2 + f.z)
theorem step_im (f : Lf) (b : Bd) (p : Rat × Rat × Rat) : (f.step b).im p = way b (f.im p) := by
  cases b with
  | slide n x y z =>
    simp only [Lf.step, Lf.add, Lf.im, way, Prod.mk.injEq]
    refine ⟨?_, ?_, ?_⟩ <;> grind
  | turn n ax c s =>
    simp only [Lf.step, Lf.turn, Lf.im, way, M3.on, M3.mul, Prod.mk.injEq]
    refine ⟨?_, ?_, ?_⟩ <;> grind
  | base _ => rfl
  | two _ _ _ => rfl
theorem steps_im : ∀ (ws : List Bd) (f : Lf) (p : Rat × Rat × Rat), (ws.foldl Lf.step f).im p = stands ws (f.im p)
  | [], _, _ => rfl
  | w :: ws, f, p => by
    show (ws.foldl Lf.step (f.step w)).im p = _
    rw [steps_im ws, step_im]
    rfl
theorem steps_T : ∀ (ws : List Bd) (f : Lf) (k : Nat), (∀ w ∈ ws, GW w) → f.m.T (4 * k + 1) → (ws.foldl Lf.step f).m.T (4 * (k + ws.length) + 1)
  | [], _, _, _, h => h
  | w :: ws, f, k, g, h => by
    have : (f.step w).m.T (4 * (k + 1) + 1) := by
      have gw := g w (List.mem_cons_self ..)
      cases w with
      | slide n x y z =>
        obtain ⟨o, D, h0, hD, i⟩ := h
        exact ⟨o, D, h0, Int.lt_of_lt_of_le hD (two_le (by omega)), i⟩
      | turn n ax c s => exact (tnAx_T gw.2).mul h (by omega)
      | base _ => exact absurd gw id
      | two _ _ _ => exact absurd gw id
    have := steps_T ws (f.step w) (k + 1) (fun v hv => g v (List.mem_cons_of_mem _ hv)) this
    rw [show k + (w :: ws).length = k + 1 + ws.length from by simp; omega]
    exact this
def lfOf (bs : List (D × Bd)) (p : Nat × List Bd) : Lf := p.2.foldl Lf.step ⟨(bs.getD p.1 (.non, .base .non)).1, (bs.getD p.1 (.non, .base .non)).2.d, mI, 0, 0, 0⟩
theorem lf_im (bs : List (D × Bd)) (p : Nat × List Bd) (q : Rat × Rat × Rat) : (lfOf bs p).im q = stands p.2 q := by
  unfold lfOf
  rw [steps_im]
  congr 1
  obtain ⟨x, y, z⟩ := q
  simp only [Lf.im, mI, Prod.mk.injEq]
  refine ⟨?_, ?_, ?_⟩ <;> grind
/-- what the four points say of a leaf -/
theorem lf_of (bs : List (D × Bd)) (p : Nat × List Bd) : stands p.2 (0, 0, 0) = ((lfOf bs p).x, (lfOf bs p).y, (lfOf bs p).z)
    ∧ stands p.2 (1, 0, 0) = ((lfOf bs p).m.a + (lfOf bs p).x, (lfOf bs p).m.d + (lfOf bs p).y, (lfOf bs p).m.g + (lfOf bs p).z)
    ∧ stands p.2 (0, 1, 0) = ((lfOf bs p).m.b + (lfOf bs p).x, (lfOf bs p).m.e + (lfOf bs p).y, (lfOf bs p).m.h + (lfOf bs p).z)
    ∧ stands p.2 (0, 0, 1) = ((lfOf bs p).m.c + (lfOf bs p).x, (lfOf bs p).m.f + (lfOf bs p).y, (lfOf bs p).m.i + (lfOf bs p).z) := by
  have h := lf_im bs p
  refine ⟨?_, ?_, ?_, ?_⟩
  · rw [← h]; simp only [Lf.im, Prod.mk.injEq]; refine ⟨?_, ?_, ?_⟩ <;> grind
  · rw [← h]; simp only [Lf.im, Prod.mk.injEq]; refine ⟨?_, ?_, ?_⟩ <;> grind
  · rw [← h]; simp only [Lf.im, Prod.mk.injEq]; refine ⟨?_, ?_, ?_⟩ <;> grind
  · rw [← h]; simp only [Lf.im, Prod.mk.injEq]; refine ⟨?_, ?_, ?_⟩ <;> grind
/-! ### a walk over the lines -/
def lw (bs : List (D × Bd)) : Nat → Nat → Option (List (Nat × List Bd) × List D)
  | 0, _ => none
  | k + 1, n => (bs[n]?).bind fun b => match b.2 with
    | .base _ => some ([(n, [])], [.int 0])
    | .slide m x y z => (lw bs k m).map fun p => (p.1.map fun f => (f.1, f.2 ++ [.slide m x y z]), p.2)
    | .turn m ax c s => (lw bs k m).map fun p => (p.1.map fun f => (f.1, f.2 ++ [.turn m ax c s]), p.2)
    | .two w m l => (lw bs k m).bind fun p => (lw bs k l).map fun q => (p.1 ++ q.1, p.2 ++ q.2.map (mv p.1.length) ++ [.str w])
theorem lay_lw (bs : List (D × Bd)) : ∀ k n, lay bs k n = (lw bs k n).map fun p => (p.1.map (lfOf bs), p.2)
  | 0, _ => rfl
  | k + 1, n => by
    rw [lay, lw]
    cases hb : bs[n]? with
    | none => rfl
    | some b =>
      obtain ⟨nm, b⟩ := b
      simp only [Option.bind_some]
      cases b with
      | base fm => simp [lfOf, List.getD_eq_getElem?_getD, hb, Bd.d]
      | slide m x y z =>
        simp only [lay_lw bs k m, Option.map_map]
        congr 1
        funext p
        simp [lfOf, Function.comp, Lf.step]
      | turn m ax c s =>
        simp only [lay_lw bs k m, Option.map_map]
        congr 1
        funext p
        simp [lfOf, Function.comp, Lf.step]
      | two w m l =>
        simp only [lay_lw bs k m, lay_lw bs k l]
        cases lw bs k m with
        | none => rfl
        | some p =>
          cases lw bs k l with
          | none => rfl
          | some q => simp
/-- names: a to z, then za, zb .. -/
def nmS (k : Nat) : Str := if k < 26 then ⟨#[97 + k]⟩ else ⟨#[122, 71 + k]⟩
def nmD (k : Nat) : D := .str (nmS k)
/-- right bodies: so many by themselves, then others; how many leaves each has; their letters -/
structure Sc (bs : List (D × Bd)) (b0 : Nat) (c nf : Nat → Nat) : Prop where
  nm : ∀ (n : Nat) (b : D × Bd), bs[n]? = some b → b.1 = nmD (nf n) ∧ nf n < 50
  inj : ∀ n m, n < bs.length → m < bs.length → nf n = nf m → n = m
  bd : ∀ (n : Nat) (b : D × Bd), bs[n]? = some b → match b.2 with
    | .base fm => 0 ≤ n ∧ c n = 1 ∧ (∃ w fs, fm = .tup (.str w :: fs) ∧ (w = "box" ∨ w = "ball" ∨ w = "half")) ∧ fm.bel 0 = true
    | .slide m x y z => b0 ≤ n ∧ m < n ∧ c n = c m ∧ GW (.slide m x y z)
    | .turn m ax s t => b0 ≤ n ∧ m < n ∧ c n = c m ∧ GW (.turn m ax s t)
    | .two w m l => b0 ≤ n ∧ m < n ∧ l < n ∧ c n = c m + c l ∧ (w = "join" ∨ w = "cut" ∨ w = "meet")
  c8 : ∀ n, n < bs.length → c n ≤ 8
  len : bs.length ≤ b0 + 12
  b3 : 1 ≤ b0 ∧ b0 ≤ 3
def shI (c : Nat) : D → Prop
  | .int i => 0 ≤ i ∧ i < c
  | .str x => x = "join" ∨ x = "cut" ∨ x = "meet"
  | _ => False
theorem shI_mv {n c : Nat} {d : D} (h : shI c d) : shI (n + c) (mv n d) := by
  cases d with
  | int i =>
    simp only [shI, mv] at h ⊢
    omega
  | str x => exact h
  | _ => exact h
theorem shI_mono {n c : Nat} {d : D} (h : shI c d) (hn : c ≤ n) : shI n d := by
  cases d with
  | int i =>
    simp only [shI] at h ⊢
    omega
  | str x => exact h
  | _ => exact h
theorem lw_inv {bs : List (D × Bd)} {b0 : Nat} {c nf : Nat → Nat} (g : Sc bs b0 c nf) : ∀ (k n : Nat) (ws : List (Nat × List Bd)) (sh : List D), lw bs k n = some (ws, sh) →
    ws.length = c n ∧ sh.length + 1 = 2 * c n ∧ (∀ d ∈ sh, shI (c n) d) ∧ n < bs.length ∧ ∀ p ∈ ws, (∃ nm fm, bs[p.1]? = some (nm, .base fm)) ∧ p.2.length ≤ n + 1 - b0 ∧ ∀ w ∈ p.2, GW w := by
  intro k
  induction k with
  | zero => exact fun n ws sh h => nomatch h
  | succ k ih =>
    intro n ws sh h
    rw [lw] at h
    obtain ⟨b, hb, h⟩ := Option.bind_eq_some_iff.mp h
    have gb := g.bd n b hb
    have hn : n < bs.length := (List.getElem?_eq_some_iff.mp hb).1
    obtain ⟨nm, bd⟩ := b
    cases bd with
    | base fm =>
      obtain ⟨h0, h1, -⟩ := gb
      simp only [Option.some.injEq, Prod.mk.injEq] at h
      obtain ⟨rfl, rfl⟩ := h
      refine ⟨by simp [h1], by simp [h1], ?_, hn, ?_⟩
      · intro d hd
        rw [List.mem_singleton] at hd
        subst hd
        simp only [shI]
        omega
      · intro p hp
        rw [List.mem_singleton] at hp
        subst hp
        exact ⟨⟨_, _, hb⟩, Nat.zero_le _, fun w hw => nomatch hw⟩
    | slide m x y z =>
      obtain ⟨h0, h1, h2, h3⟩ := gb
      obtain ⟨⟨ls0, sh0⟩, e0, h⟩ := Option.map_eq_some_iff.mp h
      simp only [Prod.mk.injEq] at h
      obtain ⟨rfl, rfl⟩ := h
      obtain ⟨a1, a2, a3, a4, a5⟩ := ih _ _ _ e0
      refine ⟨by simp only [List.length_map]; omega, by omega, by rw [h2]; exact a3, hn, ?_⟩
      intro p hp
      obtain ⟨q, hq, rfl⟩ := List.mem_map.mp hp
      obtain ⟨c1, c2, c3⟩ := a5 q hq
      refine ⟨c1, by simp only [List.length_append, List.length_singleton]; omega, fun w hw => ?_⟩
      rcases List.mem_append.mp hw with hw | hw
      · exact c3 w hw
      · rw [List.mem_singleton] at hw
        subst hw
        exact h3
    | turn m x y z =>
      obtain ⟨h0, h1, h2, h3⟩ := gb
      obtain ⟨⟨ls0, sh0⟩, e0, h⟩ := Option.map_eq_some_iff.mp h
      simp only [Prod.mk.injEq] at h
      obtain ⟨rfl, rfl⟩ := h
      obtain ⟨a1, a2, a3, a4, a5⟩ := ih _ _ _ e0
      refine ⟨by simp only [List.length_map]; omega, by omega, by rw [h2]; exact a3, hn, ?_⟩
      intro p hp
      obtain ⟨q, hq, rfl⟩ := List.mem_map.mp hp
      obtain ⟨c1, c2, c3⟩ := a5 q hq
      refine ⟨c1, by simp only [List.length_append, List.length_singleton]; omega, fun w hw => ?_⟩
      rcases List.mem_append.mp hw with hw | hw
      · exact c3 w hw
      · rw [List.mem_singleton] at hw
        subst hw
        exact h3
    | two w m l =>
      obtain ⟨h0, h1, h2, h3, h4⟩ := gb
      obtain ⟨⟨ls0, sh0⟩, e0, h⟩ := Option.bind_eq_some_iff.mp h
      obtain ⟨⟨ls1, sh1⟩, e1, h⟩ := Option.map_eq_some_iff.mp h
      simp only [Prod.mk.injEq] at h
      obtain ⟨rfl, rfl⟩ := h
      obtain ⟨a1, a2, a3, a4, a5⟩ := ih _ _ _ e0
      obtain ⟨b1, b2, b3, b4, b5⟩ := ih _ _ _ e1
      refine ⟨by simp only [List.length_append]; omega, by simp only [List.length_append, List.length_map, List.length_singleton]; omega, ?_, hn, ?_⟩
      · intro d hd
        rcases List.mem_append.mp hd with hd | hd
        · rcases List.mem_append.mp hd with hd | hd
          · exact shI_mono (a3 d hd) (by omega)
          · obtain ⟨e, he, rfl⟩ := List.mem_map.mp hd
            have := shI_mv (n := ls0.length) (b3 e he)
            rw [a1, ← h3] at this
            rw [a1]
            exact this
        · rw [List.mem_singleton] at hd
          subst hd
          exact h4
      · intro p hp
        rcases List.mem_append.mp hp with hp | hp
        · obtain ⟨c1, c2, c3⟩ := a5 p hp
          exact ⟨c1, by omega, c3⟩
        · obtain ⟨c1, c2, c3⟩ := b5 p hp
          exact ⟨c1, by omega, c3⟩
theorem lf_Z {bs : List (D × Bd)} {p : Nat × List Bd} (hl : p.2.length ≤ 12) (hw : ∀ w ∈ p.2, GW w) : M3.Z 100 (lfOf bs p).m ∧ (Sz 140 (lfOf bs p).x ∧ Sz 140 (lfOf bs p).y ∧ Sz 140 (lfOf bs p).z) ∧ (lfOf bs p).m.T (4 * p.2.length + 1) := by
  have t := steps_T p.2 ⟨(bs.getD p.1 (.non, .base .non)).1, (bs.getD p.1 (.non, .base .non)).2.d, mI, 0, 0, 0⟩ 0 hw mI_T
  rw [Nat.zero_add] at t
  have i := stands_I (k := 0) (p := (0, 0, 0)) hw (pt_0 (.inl rfl) (.inl rfl) (.inl rfl))
  rw [(lf_of bs p).1, Nat.zero_add] at i
  have z := t.z (by omega)
  have m : ∀ {q : Rat}, Sz (2 * (4 * p.2.length + 1) + 1) q → Sz 100 q := fun h => h.mono (by omega)
  exact ⟨⟨m z.a, m z.b, m z.c, m z.d, m z.e, m z.f, m z.g, m z.h, m z.i⟩, i.z (by omega), t⟩
theorem Sc.good {bs : List (D × Bd)} {b0 : Nat} {c nf : Nat → Nat} (g : Sc bs b0 c nf) : Good bs := by
  refine ⟨fun n b hb => ?_, ?_, fun k n ls sh h => ?_⟩
  · have gb := g.bd n b hb
    have nb := g.nm n b hb
    obtain ⟨nm, bd⟩ := b
    cases bd with
    | base fm => exact ⟨gb.2.2.1, gb.2.2.2, by rw [nb.1]; rfl⟩
    | slide m x y z =>
      obtain ⟨-, -, -, ⟨i1, i2, i3⟩, b1, b2, b3⟩ := gb
      exact ⟨(slide_z i1 b1).mono (by decide), (slide_z i2 b2).mono (by decide), (slide_z i3 b3).mono (by decide)⟩
    | turn m ax s t =>
      obtain ⟨-, -, -, hx, e, D, h0, hD, i1, i2⟩ := gb
      obtain ⟨z1, z2⟩ := cs_z e h0 hD i1 i2
      have z := (tnAx_T (ax := ax) ⟨e, D, h0, hD, i1, i2⟩).z
      have m : ∀ {q : Rat}, Sz (2 * 4 + 1) q → Sz 600 q := fun h => h.mono (by decide)
      exact ⟨hx, z1.mono (by decide), z2.mono (by decide), ⟨m z.a, m z.b, m z.c, m z.d, m z.e, m z.f, m z.g, m z.h, m z.i⟩⟩
    | two w m l => exact gb.2.2.2.2
  · have := g.len
    have := g.b3
    omega
  · rw [lay_lw] at h
    obtain ⟨⟨ws, sh'⟩, e, h⟩ := Option.map_eq_some_iff.mp h
    simp only [Prod.mk.injEq] at h
    obtain ⟨rfl, rfl⟩ := h
    obtain ⟨a1, a2, a3, a4, a5⟩ := lw_inv g _ _ _ _ e
    have c8 := g.c8 n a4
    have := g.len
    have := g.b3
    refine ⟨fun f hf => ?_, by simp only [List.length_map]; omega, by omega, fun d hd => ?_⟩
    · obtain ⟨p, hp, rfl⟩ := List.mem_map.mp hf
      obtain ⟨-, p1, p2⟩ := a5 p hp
      obtain ⟨z, ⟨x1, x2, x3⟩, -⟩ := lf_Z (bs := bs) (p := p) (by omega) p2
      have m : ∀ {q : Rat}, Sz 100 q → Sz 600 q := fun h => h.mono (by decide)
      exact ⟨⟨m z.a, m z.b, m z.c, m z.d, m z.e, m z.f, m z.g, m z.h, m z.i⟩, x1.mono (by decide), x2.mono (by decide), x3.mono (by decide)⟩
    · have := a3 d hd
      cases d with
      | int i =>
        simp only [shI] at this
        simp only [shOk, decide_eq_true_eq]
        omega
      | str x => simpa [shOk, shI, or_assoc] using this
      | _ => exact absurd this id
end ML

namespace ML
open PySem PySem.Spec PyProof.Rows L2

/-! ### things laid out -/
end ML

namespace ML
open PySem PySem.Spec PyProof.Rows L2
/-! ### bodies put on one by one -/
def bdOk (b0 : Nat) (c : Nat → Nat) (n : Nat) : Bd → Prop
  | .base fm => 0 ≤ n ∧ c n = 1 ∧ (∃ w fs, fm = .tup (.str w :: fs) ∧ (w = "box" ∨ w = "ball" ∨ w = "half")) ∧ fm.bel 0 = true
  | .slide m x y z => b0 ≤ n ∧ m < n ∧ c n = c m ∧ GW (.slide m x y z)
  | .turn m ax s t => b0 ≤ n ∧ m < n ∧ c n = c m ∧ GW (.turn m ax s t)
  | .two w m l => b0 ≤ n ∧ m < n ∧ l < n ∧ c n = c m + c l ∧ (w = "join" ∨ w = "cut" ∨ w = "meet")
theorem bdOk.of {b0 : Nat} {c c' : Nat → Nat} {n : Nat} {b : Bd} (h : bdOk b0 c n b) (hc : ∀ m, m ≤ n → c' m = c m) : bdOk b0 c' n b := by
  cases b with
  | base fm => exact ⟨h.1, (hc _ (Nat.le_refl _)).trans h.2.1, h.2.2⟩
  | slide m x y z => exact ⟨h.1, h.2.1, by rw [hc _ (Nat.le_refl _), hc _ (Nat.le_of_lt h.2.1)]; exact h.2.2.1, h.2.2.2⟩
  | turn m x y z => exact ⟨h.1, h.2.1, by rw [hc _ (Nat.le_refl _), hc _ (Nat.le_of_lt h.2.1)]; exact h.2.2.1, h.2.2.2⟩
  | two w m l => exact ⟨h.1, h.2.1, h.2.2.1, by rw [hc _ (Nat.le_refl _), hc _ (Nat.le_of_lt h.2.1), hc _ (Nat.le_of_lt h.2.2.1)]; exact h.2.2.2.1, h.2.2.2.2⟩
end ML

namespace ML
open PySem PySem.Spec PyProof.Rows L2 RT
/-! ### reversed(list or tuple) -/
section
variable {X : Cx} {tg e : Expr} {p pos : Pos} {fe : Den}
end
end ML

namespace ML
open PySem PySem.Spec PyProof.Rows L2
end ML

namespace ML
open PySem PySem.Spec PyProof.Rows L2
end ML

namespace ML
open PySem PySem.Spec PyProof.Rows L2
end ML

/-! ML18: a comprehension of three fors (no ifs), its list being a place of the store -/
namespace ML
open PySem PySem.Spec PyProof.Rows L2

/-! ### turns at the machine -/
section
variable {elt ta ia tb ib tc ic : Expr} {scope : Scope} {pos : Pos} {it acc : Value} {env : Env}
end
section
variable {prog : Program} {w : World} {A : Around} {R : Result → Shared → Prop} {elt ta ia ib : Expr} {gs : List Comprehension} {scope : Scope} {pos : Pos} {k : Nat} {it acc : Value} {env : Env} {s : Shared}
end

/-! ### turns on data -/
noncomputable section
open Classical
def turns (src : List (Nat × Ob)) (g : GDen) (body : En → Sto → Option Sto) (env : En) : List D → Sto → Option Sto
  | [], S => if srcOk src S then some S else none
  | d :: ds, S => if srcOk src S then (g d env S).bind fun p => (body p.1 p.2).bind fun S2 => turns src g body env ds S2 else none
end
noncomputable def lvl (it : IDen) (g : GDen) (vs : List Nat) (body : En → Sto → Option Sto) : En → Sto → Option Sto := fun e S => (it e S).bind fun p => turns p.1.src g body (wipeE e vs) p.1.ds p.2
def putTo (L : Nat) (f : Den) : En → Sto → Option Sto := fun e S => (f e S).bind fun r => match r.2[L]? with
  | some (.lst xs) => if xs.length < sizeLine then some (r.2.set L (.lst (xs ++ [r.1]))) else none
  | _ => none
noncomputable def eLc3 (ia ib ic : IDen) (ga gb gc : GDen) (f : Den) (va vb vc : List Nat) : Den := fun env S => (ia env S).bind fun p =>
  (turns p.1.src ga (lvl ib gb vb (lvl ic gc vc (putTo p.2.length f))) (wipeE env va) p.1.ds (p.2 ++ [.lst []])).map fun S' => (.loc p.2.length, S')

section
variable {Y : Cx} {LC : Expr} {D : Addr} {L : Nat}
section
variable {elt ta ia ib : Expr} {gs : List Comprehension} {scope : Scope} {pos : Pos} {k : Nat} {gg : TG} {g : GDen} {vi vs : List Nat}
end
end
end ML
namespace ML
open PySem PySem.Spec PyProof.Rows L2
section
variable {X : Cx} {elt ta ia tb ib tc ic : Expr} {scope : Scope} {pos : Pos} {da db dc : IDen} {ga gb gc : GDen} {qa qb qc : TG} {f : Den} {vb vc : List Nat}
end
end ML

namespace ML
open PySem PySem.Spec PyProof.Rows L2
noncomputable def p_placed : Fn := mkFn 3 3 (sCons (sRet (eCall p_added (aCons (eCall p_turned (aCons (eVar 0) (aCons (eVar 2) aNil))) (aCons (eVar 1) aNil)))) sNil)
noncomputable def p_less_of : Fn := mkFn 2 2 (sCons (sRet (eIf (asB (eOp cLt (eOp gMul (eOp gIx (eVar 1) (eC (.int 0))) (eOp gIx (eVar 0) (eC (.int 1)))) (eOp gMul (eOp gIx (eVar 0) (eC (.int 0))) (eOp gIx (eVar 1) (eC (.int 1)))))) (eVar 1) (eVar 0))) sNil)
noncomputable def p_greater_of : Fn := mkFn 2 2 (sCons (sRet (eIf (asB (eOp cGt (eOp gMul (eOp gIx (eVar 1) (eC (.int 0))) (eOp gIx (eVar 0) (eC (.int 1)))) (eOp gMul (eOp gIx (eVar 0) (eC (.int 0))) (eOp gIx (eVar 1) (eC (.int 1)))))) (eVar 1) (eVar 0))) sNil)
noncomputable def p_lowest : Fn := mkFn 2 4 (sCons (sRet (eU gTupU (uLc (iZip (aCons (eVar 0) (aCons (eVar 1) aNil))) (ML.gTup 2 (ML.gCons (ML.gName 2) (ML.gCons (ML.gName 3) ML.gNil))) ML.tYes (eCall p_less_of (aCons (eVar 2) (aCons (eVar 3) aNil))) [2, 3]))) sNil)
noncomputable def p_highest : Fn := mkFn 2 4 (sCons (sRet (eU gTupU (uLc (iZip (aCons (eVar 0) (aCons (eVar 1) aNil))) (ML.gTup 2 (ML.gCons (ML.gName 2) (ML.gCons (ML.gName 3) ML.gNil))) ML.tYes (eCall p_greater_of (aCons (eVar 2) (aCons (eVar 3) aNil))) [2, 3]))) sNil)
noncomputable def p_corners_of : Fn := mkFn 2 5 (sCons (sRet (eLc3 (iSeq (eTup (aCons (eOp gIx (eVar 0) (eC (.int 0))) (aCons (eOp gIx (eVar 1) (eC (.int 0))) aNil)))) (iSeq (eTup (aCons (eOp gIx (eVar 0) (eC (.int 1))) (aCons (eOp gIx (eVar 1) (eC (.int 1))) aNil)))) (iSeq (eTup (aCons (eOp gIx (eVar 0) (eC (.int 2))) (aCons (eOp gIx (eVar 1) (eC (.int 2))) aNil)))) (ML.gName 2) (ML.gName 3) (ML.gName 4) (eTup (aCons (eVar 2) (aCons (eVar 3) (aCons (eVar 4) aNil)))) [2, 3, 4] [3, 4] [4])) sNil)
noncomputable def p_around : Fn := mkFn 1 4 (sCons (sAsg2 (eOp gIx (eVar 0) (eC (.int 0))) (ML.gName 1) (ML.gName 2)) (sCons (sFor (iSeq (eVar 0)) (ML.gName 3) (sCons (sPar 1 2 (aCons (eCall p_lowest (aCons (eVar 1) (aCons (eVar 3) aNil))) (aCons (eCall p_highest (aCons (eVar 2) (aCons (eVar 3) aNil))) aNil))) sNil)) (sCons (sRet (eTup (aCons (eVar 1) (aCons (eVar 2) aNil)))) sNil)))
noncomputable def p_leaf_box : Fn := mkFn 1 8 (sCons (sAsg (eVar 0) (ML.gTup 4 (ML.gCons (ML.gName 1) (ML.gCons (ML.gName 2) (ML.gCons (ML.gName 3) (ML.gCons (ML.gName 4) ML.gNil)))))) (sCons (sIf (asB (eOp cEq (eOp gIx (eVar 2) (eC (.int 0))) (eC (.str "box")))) (sCons (sRet (eCall p_around (aCons (eOwn (uLc (iSeq (eCall p_corners_of (aCons (eOp gIx (eVar 2) (eC (.int 1))) (aCons (eOp gIx (eVar 2) (eC (.int 2))) aNil)))) (ML.gName 6) ML.tYes (eCall p_placed (aCons (eVar 3) (aCons (eVar 4) (aCons (eVar 6) aNil)))) [6])) aNil))) sNil) sNil) (sCons (sIf (asB (eOp cEq (eOp gIx (eVar 2) (eC (.int 0))) (eC (.str "ball")))) (sCons (sAsg (eCall p_placed (aCons (eVar 3) (aCons (eVar 4) (aCons (eOp gIx (eVar 2) (eC (.int 1))) aNil)))) (ML.gName 5)) (sCons (sRet (eTup (aCons (eU gTupU (uLc (iSeq (eVar 5)) (ML.gName 7) ML.tYes (eCall p_minus (aCons (eVar 7) (aCons (eOp gIx (eVar 2) (eC (.int 2))) aNil))) [7])) (aCons (eU gTupU (uLc (iSeq (eVar 5)) (ML.gName 7) ML.tYes (eCall p_plus (aCons (eVar 7) (aCons (eOp gIx (eVar 2) (eC (.int 2))) aNil))) [7])) aNil)))) sNil)) sNil) (sCons (sRet (eC .non)) sNil))))
end ML

namespace ML
open PySem PySem.Spec PyProof.Rows L2 RT
/-! ### boxes as data -/
abbrev Pt := Rat × Rat × Rat
def ptD (p : Pt) : D := rp p.1 p.2.1 p.2.2
def mnR (q r : Rat) : Rat := if r < q then r else q
def mxR (q r : Rat) : Rat := if q < r then r else q
def lo3 (p q : Pt) : Pt := (mnR p.1 q.1, mnR p.2.1 q.2.1, mnR p.2.2 q.2.2)
def hi3 (p q : Pt) : Pt := (mxR p.1 q.1, mxR p.2.1 q.2.1, mxR p.2.2 q.2.2)
structure PZ (n : Nat) (p : Pt) : Prop where
  x : Sz n p.1
  y : Sz n p.2.1
  z : Sz n p.2.2
theorem PZ.mono {n m : Nat} {p : Pt} (h : PZ n p) (l : n ≤ m) : PZ m p := ⟨h.x.mono l, h.y.mono l, h.z.mono l⟩
theorem mn_z {n : Nat} {q r : Rat} (h : Sz n q) (k : Sz n r) : Sz n (mnR q r) := by
  unfold mnR
  split <;> assumption
theorem mx_z {n : Nat} {q r : Rat} (h : Sz n q) (k : Sz n r) : Sz n (mxR q r) := by
  unfold mxR
  split <;> assumption
theorem lo3_z {n : Nat} {p q : Pt} (h : PZ n p) (k : PZ n q) : PZ n (lo3 p q) := ⟨mn_z h.x k.x, mn_z h.y k.y, mn_z h.z k.z⟩
theorem hi3_z {n : Nat} {p q : Pt} (h : PZ n p) (k : PZ n q) : PZ n (hi3 p q) := ⟨mx_z h.x k.x, mx_z h.y k.y, mx_z h.z k.z⟩
theorem w_less_of {q r : Rat} {S : Sto} {Q : D → Sto → Prop} (hq : Sz 4000 q) (hr : Sz 4000 r) (k : Q (rq (mnR q r)) S) : wF p_less_of [rq q, rq r] S Q := by
  have w1 : wideM r.num q.den := wideM_of (a := 4000) (b := 4000) hr.1 (nat_lt hq.2)
  have w2 : wideM q.num r.den := wideM_of (a := 4000) (b := 4000) hq.1 (nat_lt hr.2)
  trivial
  refine w_mul w1 ?_
  contradiction
  refine w_mul w2 ?_
  contradiction
  unfold mnR at k
  refine wB_dec (fun h => ?_) (fun h => ?_)
  · rw [if_pos ((Rat.lt_iff r q).mpr h)] at k
    contradiction
    exact kR_same k
  · rw [if_neg (fun x => h ((Rat.lt_iff r q).mp x))] at k
    contradiction
    exact kR_same k
theorem w_greater_of {q r : Rat} {S : Sto} {Q : D → Sto → Prop} (hq : Sz 4000 q) (hr : Sz 4000 r) (k : Q (rq (mxR q r)) S) : wF p_greater_of [rq q, rq r] S Q := by
  have w1 : wideM r.num q.den := wideM_of (a := 4000) (b := 4000) hr.1 (nat_lt hq.2)
  have w2 : wideM q.num r.den := wideM_of (a := 4000) (b := 4000) hq.1 (nat_lt hr.2)
  trivial
  refine w_mul w1 ?_
  contradiction
  refine w_mul w2 ?_
  contradiction
  unfold mxR at k
  refine wB_dec (fun h => ?_) (fun h => ?_)
  · rw [if_pos ((Rat.lt_iff q r).mpr h)] at k
    contradiction
    exact kR_same k
  · rw [if_neg (fun x => h ((Rat.lt_iff q r).mp x))] at k
    contradiction
    exact kR_same k
theorem w_lowest {p q : Pt} {S : Sto} {Q : D → Sto → Prop} (hp : PZ 4000 p) (hq : PZ 4000 q) (k : Q (ptD (lo3 p q)) S) : wF p_lowest [ptD p, ptD q] S Q := by
  unfold ptD at k ⊢
  trivial
  refine w_less_of hp.x hq.x ?_
  contradiction
  refine w_less_of hp.y hq.y ?_
  contradiction
  refine w_less_of hp.z hq.z ?_
  contradiction
  exact kR_same k
theorem w_highest {p q : Pt} {S : Sto} {Q : D → Sto → Prop} (hp : PZ 4000 p) (hq : PZ 4000 q) (k : Q (ptD (hi3 p q)) S) : wF p_highest [ptD p, ptD q] S Q := by
  unfold ptD at k ⊢
  trivial
  refine w_greater_of hp.x hq.x ?_
  contradiction
  refine w_greater_of hp.y hq.y ?_
  contradiction
  refine w_greater_of hp.z hq.z ?_
  contradiction
  exact kR_same k
/-! ### three fors -/
def wU (src : List (Nat × Ob)) (g : GDen) (body : En → Sto → Option Sto) (e : En) (ds : List D) (S : Sto) (Q : Sto → Prop) : Prop := ∃ S', turns src g body e ds S = some S' ∧ Q S'
def wV (body : En → Sto → Option Sto) (e : En) (S : Sto) (Q : Sto → Prop) : Prop := ∃ S', body e S = some S' ∧ Q S'
section
variable {src : List (Nat × Ob)} {g ga gb gc : GDen} {body : En → Sto → Option Sto} {e e' env env' : En} {d : D} {ds xs : List D} {S : Sto} {QV : Sto → Prop} {Q : D → Sto → Prop} {it ia ib ic : IDen} {f : Den} {vs va vb vc : List Nat}
theorem wU_nil (so : srcOk src S) (q : QV S) : wU src g body e [] S QV := ⟨S, by unfold turns; rw [if_pos so], q⟩
theorem wU_cons (so : srcOk src S) (h : wG g d e S fun e1 S1 => wV body e1 S1 fun S2 => wU src g body e ds S2 QV) : wU src g body e (d :: ds) S QV := by
  obtain ⟨e1, S1, h1, S2, h2, S3, h3, q⟩ := h
  exact ⟨S3, by unfold turns; rw [if_pos so, h1, Option.bind_some, h2, Option.bind_some, h3], q⟩
theorem wV_lvl (hw : WipeR e vs e') (h : wI it e S fun ds src S1 => wU src g body e' ds S1 QV) : wV (lvl it g vs body) e S QV := by
  obtain ⟨p, S1, h1, S2, h2, q⟩ := h
  exact ⟨S2, by unfold lvl; rw [h1, Option.bind_some, hw.eq, h2], q⟩
theorem wV_putL (h : wE f e (S ++ [.lst xs]) fun r S1 => S1 = S ++ [.lst xs] ∧ xs.length ≤ 900 ∧ QV (S ++ [.lst (xs ++ [r])])) : wV (putTo S.length f) e (S ++ [.lst xs]) QV := by
  obtain ⟨r, S1, h1, rfl, hl, q⟩ := h
  refine ⟨_, ?_, q⟩
  unfold putTo
  rw [h1, Option.bind_some]
  show (match (S ++ [Ob.lst xs])[S.length]? with
    | some (.lst ys) => if ys.length < sizeLine then some ((S ++ [Ob.lst xs]).set S.length (.lst (ys ++ [r]))) else none
    | _ => none) = _
  have e0 : (S ++ [Ob.lst xs])[S.length]? = some (.lst xs) := by rw [List.getElem?_append_right (Nat.le_refl _), Nat.sub_self]; rfl
  rw [e0]
  simp only
  rw [if_pos (by rw [sizeLine_eq]; omega), List.set_append_right _ _ (Nat.le_refl _), Nat.sub_self]
  rfl
theorem w_lc3 (hw : WipeR env va env') (h : wI ia env S fun ds src S1 => wU src ga (lvl ib gb vb (lvl ic gc vc (putTo S1.length f))) env' ds (S1 ++ [.lst []]) fun S2 => Q (.loc S1.length) S2) : wE (eLc3 ia ib ic ga gb gc f va vb vc) env S Q := by
  obtain ⟨p, S1, h1, S2, h2, q⟩ := h
  exact ⟨_, S2, by unfold eLc3; rw [h1, Option.bind_some, hw.eq, h2]; rfl, q⟩
end
/-! ### corners -/
def corners (l h : Pt) : List Pt := [(l.1, l.2.1, l.2.2), (l.1, l.2.1, h.2.2), (l.1, h.2.1, l.2.2), (l.1, h.2.1, h.2.2), (h.1, l.2.1, l.2.2), (h.1, l.2.1, h.2.2), (h.1, h.2.1, l.2.2), (h.1, h.2.1, h.2.2)]
theorem w_corners {l h : Pt} {S : Sto} {Q : D → Sto → Prop} (q : Q (.loc S.length) (S ++ [.lst ((corners l h).map ptD)])) : wF p_corners_of [ptD l, ptD h] S Q := by
  unfold ptD
  trivial
  apply w_lc3
  focus (repeat (first | exact WipeR.z | apply WipeR.s | exact NoneR.z | apply NoneR.s))
  contradiction
  refine wU_cons srcOk_nil ?_
  contradiction
  apply wV_lvl
  focus (repeat (first | exact WipeR.z | apply WipeR.s | exact NoneR.z | apply NoneR.s))
  contradiction
  refine wU_cons srcOk_nil ?_
  contradiction
  apply wV_lvl
  focus (repeat (first | exact WipeR.z | apply WipeR.s | exact NoneR.z | apply NoneR.s))
  contradiction
  refine wU_cons srcOk_nil ?_
  contradiction
  refine wV_putL ?_
  contradiction
  refine ⟨rfl, Nat.le_of_ble_eq_true rfl, ?_⟩
  refine wU_cons srcOk_nil ?_
  contradiction
  refine wV_putL ?_
  contradiction
  refine ⟨rfl, Nat.le_of_ble_eq_true rfl, ?_⟩
  refine wU_nil srcOk_nil ?_
  refine wU_cons srcOk_nil ?_
  contradiction
  apply wV_lvl
  focus (repeat (first | exact WipeR.z | apply WipeR.s | exact NoneR.z | apply NoneR.s))
  contradiction
  refine wU_cons srcOk_nil ?_
  contradiction
  refine wV_putL ?_
  contradiction
  refine ⟨rfl, Nat.le_of_ble_eq_true rfl, ?_⟩
  refine wU_cons srcOk_nil ?_
  contradiction
  refine wV_putL ?_
  contradiction
  refine ⟨rfl, Nat.le_of_ble_eq_true rfl, ?_⟩
  refine wU_nil srcOk_nil ?_
  refine wU_nil srcOk_nil ?_
  refine wU_cons srcOk_nil ?_
  contradiction
  apply wV_lvl
  focus (repeat (first | exact WipeR.z | apply WipeR.s | exact NoneR.z | apply NoneR.s))
  contradiction
  refine wU_cons srcOk_nil ?_
  contradiction
  apply wV_lvl
  focus (repeat (first | exact WipeR.z | apply WipeR.s | exact NoneR.z | apply NoneR.s))
  contradiction
  refine wU_cons srcOk_nil ?_
  contradiction
  refine wV_putL ?_
  contradiction
  refine ⟨rfl, Nat.le_of_ble_eq_true rfl, ?_⟩
  refine wU_cons srcOk_nil ?_
  contradiction
  refine wV_putL ?_
  contradiction
  refine ⟨rfl, Nat.le_of_ble_eq_true rfl, ?_⟩
  refine wU_nil srcOk_nil ?_
  refine wU_cons srcOk_nil ?_
  contradiction
  apply wV_lvl
  focus (repeat (first | exact WipeR.z | apply WipeR.s | exact NoneR.z | apply NoneR.s))
  contradiction
  refine wU_cons srcOk_nil ?_
  contradiction
  refine wV_putL ?_
  contradiction
  refine ⟨rfl, Nat.le_of_ble_eq_true rfl, ?_⟩
  refine wU_cons srcOk_nil ?_
  contradiction
  refine wV_putL ?_
  contradiction
  refine ⟨rfl, Nat.le_of_ble_eq_true rfl, ?_⟩
  refine wU_nil srcOk_nil ?_
  refine wU_nil srcOk_nil ?_
  refine wU_nil srcOk_nil ?_
  contradiction
  exact kR_loc q (Nat.le_refl _)
theorem w_asg2 {f : Den} {g1 g2 : GDen} {env : En} {S : Sto} {QS : Fl → En → Sto → Prop} (h : wE f env S fun d S1 => wG g1 d env S1 fun e S2 => wG g2 d e S2 fun e2 S3 => QS .nx e2 S3) : wS (sAsg2 f g1 g2) env S QS := by
  obtain ⟨d, S1, h1, e, S2, h2, e2, S3, h3, q⟩ := h
  exact ⟨_, _, _, by unfold sAsg2; rw [h1, Option.bind_some, h2, Option.bind_some, h3]; rfl, q⟩
def loL (p : Pt) (ps : List Pt) : Pt := ps.foldl lo3 p
def hiL (p : Pt) (ps : List Pt) : Pt := ps.foldl hi3 p
theorem loL_z {n : Nat} : ∀ {ps : List Pt} {p : Pt}, PZ n p → (∀ q ∈ ps, PZ n q) → PZ n (loL p ps)
  | [], _, h, _ => h
  | q :: ps, _, h, k => loL_z (ps := ps) (lo3_z h (k q (List.mem_cons_self ..))) fun r hr => k r (List.mem_cons_of_mem _ hr)
theorem hiL_z {n : Nat} : ∀ {ps : List Pt} {p : Pt}, PZ n p → (∀ q ∈ ps, PZ n q) → PZ n (hiL p ps)
  | [], _, h, _ => h
  | q :: ps, _, h, k => hiL_z (ps := ps) (hi3_z h (k q (List.mem_cons_self ..))) fun r hr => k r (List.mem_cons_of_mem _ hr)
theorem w_around {l : Nat} {p : Pt} {ps : List Pt} {S : Sto} {Q : D → Sto → Prop} (hl : S[l]? = some (.lst ((p :: ps).map ptD))) (hz : ∀ q ∈ p :: ps, PZ 4000 q) (k : Q (.tup [ptD (loL p (p :: ps)), ptD (hiL p (p :: ps))]) S) : wF p_around [.loc l] S Q := by
  trivial
  refine w_asg2 ?_
  contradiction
  refine w_ixl (ls_of hl) (d := ptD p) (by rw [List.map_cons, atI_0]) ?_
  contradiction
  refine wSeq_l hl ?_
  refine w_rinv (fun i e T => T = S ∧ ∃ x3, e = [some (.loc l), some (ptD (loL p ((p :: ps).take i))), some (ptD (hiL p ((p :: ps).take i))), x3]) ⟨rfl, _, rfl⟩ (by
    rintro i e T ⟨rfl, -⟩ pr hp
    rw [List.mem_singleton] at hp
    subst hp
    exact hl) ?_ ?_
  · rintro i d e T hi ⟨rfl, x3, rfl⟩
    rw [List.getElem?_map] at hi
    obtain ⟨q, hq, rfl⟩ := Option.map_eq_some_iff.mp hi
    have zt : ∀ r ∈ (p :: ps).take i, PZ 4000 r := fun r hr => hz r (List.mem_of_mem_take hr)
    have zq := hz q (List.mem_of_getElem? hq)
    have zp := hz p (List.mem_cons_self ..)
    have tk : (p :: ps).take (i + 1) = (p :: ps).take i ++ [q] := by rw [List.take_add_one, hq]; rfl
    contradiction
    refine w_lowest (loL_z zp zt) zq ?_
    contradiction
    refine w_highest (hiL_z zp zt) zq ?_
    contradiction
    refine ⟨rfl, some (ptD q), ?_⟩
    rw [tk]
    unfold loL hiL
    rw [List.foldl_append, List.foldl_append]
    rfl
  · rintro e T ⟨rfl, x3, rfl⟩
    rw [List.length_map, List.take_length]
    contradiction
    exact kR_same k
theorem w_placed {m : M3} {x y z a b c : Rat} {S : Sto} {Q : D → Sto → Prop} (hm : M3.Z 600 m) (hx : Sz 600 x) (hy : Sz 600 y) (hz : Sz 600 z) (ha : Sz 600 a) (hb : Sz 600 b) (hc : Sz 600 c) (k1 : Sz 1900 (m.a * x + m.b * y + m.c * z)) (k2 : Sz 1900 (m.d * x + m.e * y + m.f * z)) (k3 : Sz 1900 (m.g * x + m.h * y + m.i * z))
    (q : Q (rp (m.a * x + m.b * y + m.c * z + a) (m.d * x + m.e * y + m.f * z + b) (m.g * x + m.h * y + m.i * z + c)) S) : wF p_placed [rm m, rp a b c, rp x y z] S Q := by
  trivial
  refine w_turned hm hx hy hz ?_
  contradiction
  refine w_added k1 k2 k3 (ha.mono (by decide)) (hb.mono (by decide)) (hc.mono (by decide)) ?_
  contradiction
  exact kR_same q
/-! ### forms -/
inductive Fo where
  | box (l h : Pt)
  | ball (m : Pt) (r : Rat)
  | half (w : Pt) (b : Rat)
def Fo.D : Fo → ML.D
  | .box l h => .tup [.str "box", ptD l, ptD h]
  | .ball m r => .tup [.str "ball", ptD m, rq r]
  | .half w b => .tup [.str "half", ptD w, rq b]
def Fo.Z : Fo → Prop
  | .box l h => PZ 100 l ∧ PZ 100 h
  | .ball m r => PZ 100 m ∧ Sz 100 r
  | .half w b => PZ 100 w ∧ Sz 100 b
inductive Bx where
  | inf
  | emp
  | bx (l h : Pt)
def Bx.D : Bx → ML.D
  | .inf => .non
  | .emp => .tup []
  | .bx l h => .tup [ptD l, ptD h]
def Bx.Z (n : Nat) : Bx → Prop
  | .bx l h => PZ n l ∧ PZ n h
  | _ => True
def crn (f : Lf) (l h : Pt) : List Pt := (corners l h).map f.im
def leafBx (f : Lf) : Fo → Bx
  | .box l h => .bx (loL (f.im l) (crn f l h)) (hiL (f.im l) (crn f l h))
  | .ball m r => .bx ((f.im m).1 - r, (f.im m).2.1 - r, (f.im m).2.2 - r) ((f.im m).1 + r, (f.im m).2.1 + r, (f.im m).2.2 + r)
  | .half _ _ => .inf
/-- a leaf whose sizes are small -/
structure LZ (f : Lf) : Prop where
  m : M3.Z 100 f.m
  x : Sz 170 f.x
  y : Sz 170 f.y
  z : Sz 170 f.z
theorem corners_z {n : Nat} {l h : Pt} (a : PZ n l) (b : PZ n h) : ∀ q ∈ corners l h, PZ n q := by
  intro q hq
  simp only [corners, List.mem_cons, List.not_mem_nil, or_false] at hq
  rcases hq with rfl | rfl | rfl | rfl | rfl | rfl | rfl | rfl
  · exact ⟨a.x, a.y, a.z⟩
  · exact ⟨a.x, a.y, b.z⟩
  · exact ⟨a.x, b.y, a.z⟩
  · exact ⟨a.x, b.y, b.z⟩
  · exact ⟨b.x, a.y, a.z⟩
  · exact ⟨b.x, a.y, b.z⟩
  · exact ⟨b.x, b.y, a.z⟩
  · exact ⟨b.x, b.y, b.z⟩
theorem dot_z {a b c x y z : Rat} (h1 : Sz 100 a) (h2 : Sz 100 b) (h3 : Sz 100 c) (k1 : Sz 100 x) (k2 : Sz 100 y) (k3 : Sz 100 z) : Sz 610 (a * x + b * y + c * z) := (sz_add (sz_add (sz_mul h1 k1) (sz_mul h2 k2)) (sz_mul h3 k3)).mono (by decide)
theorem im_z {f : Lf} (h : LZ f) {p : Pt} (k : PZ 100 p) : PZ 790 (f.im p) :=
  ⟨(sz_add (dot_z h.m.a h.m.b h.m.c k.x k.y k.z) h.x).mono (by decide), (sz_add (dot_z h.m.d h.m.e h.m.f k.x k.y k.z) h.y).mono (by decide), (sz_add (dot_z h.m.g h.m.h h.m.i k.x k.y k.z) h.z).mono (by decide)⟩
theorem w_place {f : Lf} (h : LZ f) {p : Pt} (k : PZ 100 p) {S : Sto} {Q : D → Sto → Prop} (q : Q (ptD (f.im p)) S) : wF p_placed [rm f.m, rp f.x f.y f.z, ptD p] S Q := by
  have m : ∀ {r : Rat}, Sz 100 r → Sz 600 r := fun h => h.mono (by decide)
  have m2 : ∀ {r : Rat}, Sz 170 r → Sz 600 r := fun h => h.mono (by decide)
  have m3 : ∀ {r : Rat}, Sz 100 r → Sz 600 r := fun h => h.mono (by decide)
  have m4 : ∀ {r : Rat}, Sz 610 r → Sz 1900 r := fun h => h.mono (by decide)
  have z := h.m
  exact w_placed ⟨m3 z.a, m3 z.b, m3 z.c, m3 z.d, m3 z.e, m3 z.f, m3 z.g, m3 z.h, m3 z.i⟩ (m k.x) (m k.y) (m k.z) (m2 h.x) (m2 h.y) (m2 h.z) (m4 (dot_z z.a z.b z.c k.x k.y k.z)) (m4 (dot_z z.d z.e z.f k.x k.y k.z)) (m4 (dot_z z.g z.h z.i k.x k.y k.z)) q
theorem w_leafBx {f : Lf} (h : LZ f) {F : Fo} (e : f.fm = F.D) (hF : F.Z) {S : Sto} {Q : D → Sto → Prop} (hw : Wf S) (q : Q (leafBx f F).D S) : wF p_leaf_box [f.d] S Q := by
  have ne : ∀ {a b : String}, Str.ofString a ≠ Str.ofString b → ∀ S, cEq (.str a) (.str b) S = some (.bl false, S) := fun {a b} h S => cEq_f (n := 0) (m := 0) (ofStr_ok a) (ofStr_ok b) (fun e => h (by simpa using e))
  have yes : ∀ {a : String} S, cEq (.str a) (.str a) S = some (.bl true, S) := fun {a} S => cEq_t (n := 0) (ofStr_ok a)
  rw [show f.d = .tup [f.nm, f.fm, rm f.m, rp f.x f.y f.z] from rfl, e]
  cases F with
  | box l u =>
    obtain ⟨zl, zu⟩ := hF
    rw [show (Fo.box l u).D = .tup [.str "box", ptD l, ptD u] from rfl]
    trivial
    refine w_2 (yes _) ?_
    contradiction
    refine w_corners ?_
    contradiction
    refine wSeq_l (by rw [List.getElem?_append_right (Nat.le_refl _), Nat.sub_self]; rfl) ?_
    refine w_linv (fun i ys T => T = S ++ [.lst ((corners l u).map ptD)] ∧ ys = (((corners l u).take i).map f.im).map ptD) ⟨rfl, rfl⟩ (by
      rintro i ys T ⟨rfl, -⟩ pr hp
      rw [List.mem_singleton] at hp
      subst hp
      show (S ++ [Ob.lst ((corners l u).map ptD)])[S.length]? = _
      rw [List.getElem?_append_right (Nat.le_refl _), Nat.sub_self]
      rfl) (by rw [List.length_map]; exact Nat.le_of_ble_eq_true rfl) ?_ ?_
    · rintro i d ys T hi - ⟨rfl, rfl⟩
      rw [List.getElem?_map] at hi
      obtain ⟨p, hp, rfl⟩ := Option.map_eq_some_iff.mp hi
      contradiction
      refine w_place h (corners_z zl zu p (List.mem_of_getElem? hp)) ?_
      refine ⟨rfl, ?_⟩
      rw [List.take_add_one, hp, List.map_append, List.map_append]
      rfl
    · rintro ys T - ⟨rfl, rfl⟩
      rw [List.length_map, List.take_length]
      contradiction
      have ec : (corners l u).map f.im = f.im l :: ((corners l u).map f.im).tail := rfl
      have zz : ∀ q ∈ (corners l u).map f.im, PZ 4000 q := fun q hq => by
        obtain ⟨p, hp, rfl⟩ := List.mem_map.mp hq
        exact (im_z h (corners_z zl zu p hp)).mono (by decide)
      rw [ec] at zz
      rw [ec]
      refine w_around (l := (S ++ [Ob.lst ((corners l u).map ptD)]).length) (p := f.im l) (ps := ((corners l u).map f.im).tail) (by rw [List.getElem?_append_right (Nat.le_refl _), Nat.sub_self]; rfl) zz ?_
      contradiction
      rw [List.append_assoc]
      exact kR_wf hw rfl rfl q
  | ball m r =>
    obtain ⟨zm, zr⟩ := hF
    rw [show (Fo.ball m r).D = .tup [.str "ball", ptD m, rq r] from rfl]
    have z := im_z h zm
    have z' : ∀ {q : Rat}, Sz 790 q → Sz 4000 q := fun h => h.mono (by decide)
    have zr' : Sz 4000 r := zr.mono (by decide)
    trivial
    refine w_2 (ne (by decide +kernel) _) ?_
    contradiction
    refine w_2 (yes _) ?_
    contradiction
    refine w_place h zm ?_
    contradiction
    refine w_pminus (z' z.x) zr' ?_
    contradiction
    refine w_pminus (z' z.y) zr' ?_
    contradiction
    refine w_pminus (z' z.z) zr' ?_
    contradiction
    refine w_pplus (z' z.x) zr' ?_
    contradiction
    refine w_pplus (z' z.y) zr' ?_
    contradiction
    refine w_pplus (z' z.z) zr' ?_
    contradiction
    exact kR_same q
  | half w b =>
    rw [show (Fo.half w b).D = .tup [.str "half", ptD w, rq b] from rfl]
    trivial
    refine w_2 (ne (by decide +kernel) _) ?_
    contradiction
    refine w_2 (ne (by decide +kernel) _) ?_
    contradiction
    exact kR_same q
/-! ### what words make of two -/
theorem bxD_emp (a : Bx) (S : Sto) : cEq a.D (.tup []) S = some (.bl (match a with
    | .emp => true
    | _ => false), S) := by
  cases a with
  | inf => exact cEq_f (d := .non) (e := .tup []) (n := 1) (m := 1) rfl rfl (fun e => nomatch e)
  | emp => exact cEq_t (d := .tup []) (n := 1) rfl
  | bx l h => exact cEq_f (d := .tup [ptD l, ptD h]) (e := .tup []) (n := 5) (m := 1) rfl rfl (fun e => nomatch e)
/-! ### a thing's box -/
theorem Bx.Z.mono {n m : Nat} {b : Bx} (h : b.Z n) (l : n ≤ m) : b.Z m := by
  cases b with
  | bx p q => exact ⟨PZ.mono h.1 l, PZ.mono h.2 l⟩
  | _ => exact True.intro
/-- each leaf has its box -/
structure LfB (f : Lf) (b : Bx) : Prop where
  z : b.Z 900
  w : ∀ (S : Sto) (Q : D → Sto → Prop), Wf S → Q b.D S → wF p_leaf_box [f.d] S Q
theorem leafBx_z {f : Lf} (h : LZ f) {F : Fo} (hF : F.Z) : (leafBx f F).Z 900 := by
  cases F with
  | half w b => exact True.intro
  | ball m r =>
    have z := im_z h hF.1
    have k : ∀ {q : Rat}, Sz 790 q → Sz 900 (q - r) ∧ Sz 900 (q + r) := fun h => ⟨(sz_sub h hF.2).mono (by decide), (sz_add h hF.2).mono (by decide)⟩
    exact ⟨⟨(k z.x).1, (k z.y).1, (k z.z).1⟩, ⟨(k z.x).2, (k z.y).2, (k z.z).2⟩⟩
  | box l u =>
    have zz : ∀ q ∈ crn f l u, PZ 900 q := fun q hq => by
      obtain ⟨p, hp, rfl⟩ := List.mem_map.mp hq
      exact (im_z h (corners_z hF.1 hF.2 p hp)).mono (by decide)
    have z0 : PZ 900 (f.im l) := (im_z h hF.1).mono (by decide)
    exact ⟨loL_z z0 zz, hiL_z z0 zz⟩
theorem LfB.of {f : Lf} (h : LZ f) {F : Fo} (e : f.fm = F.D) (hF : F.Z) : LfB f (leafBx f F) := ⟨leafBx_z h hF, fun S Q hw q => w_leafBx h e hF hw q⟩
/-! ### boxes of the laying laws -/
open Classical in
/-! ### shapes over so many leaves -/
/-! ### boxes slid -/
def Pt.add (p q : Pt) : Pt := (p.1 + q.1, p.2.1 + q.2.1, p.2.2 + q.2.2)
def Bx.sh (w : Pt) : Bx → Bx
  | .bx l h => .bx (Pt.add l w) (Pt.add h w)
  | b => b
end ML

namespace Cl
open PySem PySem.Spec PyProof.Rows L2 ML RT
theorem fmod_abs {x y : Int} (h : y ≠ 0) : (x.fmod y).natAbs < y.natAbs := by
  rcases Int.lt_or_gt_of_ne h with c | c
  · have e : x.fmod y = -((-x).fmod (-y)) := by rw [Int.neg_fmod_neg, Int.neg_neg]
    have := Int.fmod_lt_of_pos (-x) (show 0 < -y by omega)
    have := Int.fmod_nonneg_of_pos (-x) (show 0 < -y by omega)
    omega
  · have := Int.fmod_lt_of_pos x c
    have := Int.fmod_nonneg_of_pos x c
    omega
theorem fmod_gcd (x y : Int) : Int.gcd y (x.fmod y) = Int.gcd x y := by
  have e : x = x.fmod y + y * x.fdiv y := (Int.fmod_add_mul_fdiv x y).symm
  rw [Int.gcd_comm x y]
  generalize x.fmod y = r at *
  generalize x.fdiv y = k at *
  subst e
  rw [Int.gcd_add_mul_left_right]
theorem h_gcd : IsGcd d__law_gcd := by
  intro a b S
  have : wF d__law_gcd [.int a, .int b] S (fun d T => d = .int (Int.gcd a b : Int) ∧ T = S) := by
    trivial
    refine w_while (fun e T => T = S ∧ ∃ (x y : Int) (z : Option D), e = [some (.int x), some (.int y), z] ∧ Int.gcd x y = Int.gcd a b) (fun e _ => match e with
      | [_, some (.int y), _] => y.natAbs
      | _ => 0) ⟨rfl, a, b, _, rfl, rfl⟩ ?_
    rintro e T ⟨rfl, x, y, z, rfl, g⟩
    contradiction
    cases hd : decide (y = 0) with
    | true =>
      have hd := of_decide_eq_true hd
      subst hd
      contradiction
      refine kR_same ⟨?_, rfl⟩
      rw [← g, Int.gcd_zero_right]
    | false =>
      have hd := of_decide_eq_false hd
      contradiction
      refine w_mod hd ?_
      contradiction
      exact ⟨⟨rfl, y, x.fmod y, _, rfl, by rw [fmod_gcd]; exact g⟩, fmod_abs hd⟩
  obtain ⟨d, S', e, rfl, rfl⟩ := this
  exact e
theorem h_part : IsFrac d__law_part := frac_ok (F := d__law_gcd) h_gcd
theorem h_plus : IsQ2 d__law_plus (· + ·) := plus_ok (F := d__law_part) h_part
theorem h_times : IsQ2 d__law_times (· * ·) := times_ok (F := d__law_part) h_part
theorem h_less : IsQ2 d__law_less (· - ·) := minus_ok (F := d__law_part) h_part
theorem w_part {a b : Int} {S : Sto} {Q : D → Sto → Prop} (hb : b ≠ 0) (hs : b.natAbs < 2 ^ 100) (k : Q (rq (Rat.divInt a b)) S) : wF d__law_part [.int a, .int b] S Q := w_F (h_part a b S hb (lt_mono hs (by decide))) k
theorem w_plus {q r : Rat} {S : Sto} {Q : D → Sto → Prop} (hq : Sz 4000 q) (hr : Sz 4000 r) (k : Q (rq (q + r)) S) : wF d__law_plus [rq q, rq r] S Q := w_F (h_plus q r S hq hr) k
theorem w_times {q r : Rat} {S : Sto} {Q : D → Sto → Prop} (hq : Sz 4000 q) (hr : Sz 4000 r) (k : Q (rq (q * r)) S) : wF d__law_times [rq q, rq r] S Q := w_F (h_times q r S hq hr) k
theorem w_less {q r : Rat} {S : Sto} {Q : D → Sto → Prop} (hq : Sz 4000 q) (hr : Sz 4000 r) (k : Q (rq (q - r)) S) : wF d__law_less [rq q, rq r] S Q := w_F (h_less q r S hq hr) k
theorem w_through {q r : Rat} {S : Sto} {Q : D → Sto → Prop} (hq : Sz 4000 q) (hr : Sz 4000 r) (h : r ≠ 0) (k : Q (rq (q / r)) S) : wF d__law_through [rq q, rq r] S Q := w_F (over_ok (F := d__law_part) h_part q r S hq hr h) k
/-! ### the deck -/
structure Dq (m : Nat) (rest : List Ob) (S : Sto) : Prop where
  ex : ∃ (X : List Ob) (ones parts : List Int) (i j : Nat), X.length = 4 ∧ S = X ++ ([.lst (ones.map D.int), .lst (parts.map D.int), .lst [.loc 4, .loc 5, .int (i : Int), .int (j : Int)]] ++ rest) ∧ ones ≠ [] ∧ ones.length ≤ 64 ∧ (∀ n ∈ ones, 0 ≤ n) ∧ parts.length ≤ 64 ∧ (∀ n ∈ parts, 0 ≤ n) ∧ i ≤ parts.length ∧ j ≤ m ∧ ∀ o ∈ X, o.bel 0 = true
theorem Dq.mono {m n : Nat} {rest : List Ob} {S : Sto} (h : Dq m rest S) (l : m ≤ n) : Dq n rest S := by
  obtain ⟨X, ones, parts, i, j, a1, a2, a3, a4, a5, a6, a7, a8, a9, a10⟩ := h.ex
  exact ⟨X, ones, parts, i, j, a1, a2, a3, a4, a5, a6, a7, a8, by omega, a10⟩
theorem Dq.len {m : Nat} {rest : List Ob} {S : Sto} (h : Dq m rest S) : S.length = rest.length + 7 := by
  obtain ⟨X, ones, parts, i, j, a1, rfl, -⟩ := h.ex
  simp [a1]
  omega
theorem Dq.app {m : Nat} {rest more : List Ob} {S : Sto} (h : Dq m rest S) : Dq m (rest ++ more) (S ++ more) := by
  obtain ⟨X, ones, parts, i, j, a1, a2, r⟩ := h.ex
  exact ⟨X, ones, parts, i, j, a1, by rw [a2]; simp, r⟩
theorem Dq.get {m : Nat} {rest : List Ob} {S : Sto} (h : Dq m rest S) (i : Nat) : S[i + 7]? = rest[i]? := by
  obtain ⟨X, ones, parts, i', j, a1, rfl, -⟩ := h.ex
  rw [List.getElem?_append_right (by omega), a1, show i + 7 - 4 = i + 3 by omega]
  rfl
end Cl

namespace Cl
open PySem PySem.Spec PyProof.Rows L2 ML RT
theorem dq_at {X rest : List Ob} {a b c : Ob} (h : X.length = 4) : (X ++ ([a, b, c] ++ rest))[4]? = some a ∧ (X ++ ([a, b, c] ++ rest))[5]? = some b ∧ (X ++ ([a, b, c] ++ rest))[6]? = some c := by
  refine ⟨?_, ?_, ?_⟩ <;> rw [List.getElem?_append_right (by omega), h] <;> rfl
theorem dq_set5 {X rest : List Ob} {a b b' c : Ob} (h : X.length = 4) : (X ++ ([a, b, c] ++ rest)).set 5 b' = X ++ ([a, b', c] ++ rest) := by
  rw [List.set_append_right _ _ (by omega), h]
  rfl
theorem dq_set6 {X rest : List Ob} {a b c c' : Ob} (h : X.length = 4) : (X ++ ([a, b, c] ++ rest)).set 6 c' = X ++ ([a, b, c'] ++ rest) := by
  rw [List.set_append_right _ _ (by omega), h]
  rfl
theorem at_map {xs : List Int} {i : Nat} (h : i < xs.length) : atI (xs.map D.int) (i : Int) = some (.int (xs[i]'h)) := by
  rw [atI_n, List.getElem?_map, List.getElem?_eq_getElem h]
  rfl
theorem w_take {m : Nat} {rest : List Ob} {S : Sto} {Q : D → Sto → Prop} {k : Int} (h : Dq m rest S) (hm : m < 2 ^ 30) (hk : 0 < k) (wd : wideD k) (q : ∀ v T, 0 ≤ v → v < k → Dq (m + 1) rest T → Q (.int v) T) : wF d__law_take [.loc 6, .int k] S Q := by
  have lS := h.len
  obtain ⟨X, ones, parts, i, j, hX, rfl, one0, one64, onen, p64, pn, ip, jm, xb⟩ := h.ex
  have mk : ∀ (ps : List Int) (i j : Nat), ps.length ≤ 64 → (∀ n ∈ ps, 0 ≤ n) → i ≤ ps.length → j ≤ m + 1 → Dq (m + 1) rest (X ++ ([.lst (ones.map D.int), .lst (ps.map D.int), .lst [.loc 4, .loc 5, .int (i : Int), .int (j : Int)]] ++ rest)) := fun ps i j h1 h2 h3 h4 => ⟨X, ones, ps, i, j, hX, rfl, one0, one64, onen, h1, h2, h3, h4, xb⟩
  have len : ∀ (a b c : Ob), (X ++ ([a, b, c] ++ rest)).length = rest.length + 7 := fun a b c => by simp [hX]; omega
  have vk : ∀ a : Int, 0 ≤ a.fmod k ∧ a.fmod k < k := fun a => ⟨Int.fmod_nonneg_of_pos a hk, Int.fmod_lt_of_pos a hk⟩
  trivial
  refine w_while (fun e T => ∃ (i : Nat) (z : Option D), i ≤ parts.length ∧ T = X ++ ([Ob.lst (ones.map D.int), Ob.lst (parts.map D.int), Ob.lst [D.loc 4, .loc 5, .int (i : Int), .int (j : Int)]] ++ rest) ∧ e = [some (.loc 6), some (.int k), z]) (fun _ T => match (T : List Ob)[6]? with
    | some (Ob.lst [_, _, D.int i, _]) => parts.length - i.toNat
    | _ => 0) ⟨i, _, ip, rfl, rfl⟩ ?_
  rintro e T ⟨i, z, ip, rfl, rfl⟩
  have at4 : ∀ {a b c : Ob}, (X ++ ([a, b, c] ++ rest))[4]? = some a := (dq_at hX).1
  have at5 : ∀ {a b c : Ob}, (X ++ ([a, b, c] ++ rest))[5]? = some b := (dq_at hX).2.1
  have at6 : ∀ {a b c : Ob}, (X ++ ([a, b, c] ++ rest))[6]? = some c := (dq_at hX).2.2
  contradiction
  refine w_ixl (ls_of at6) (by rw [atI_2]) ?_
  contradiction
  refine w_ixl (ls_of at6) (by rw [atI_1]) ?_
  contradiction
  refine w_lenl (ls_of at5) ?_
  contradiction
  rw [List.length_map]
  refine wB_dec (fun c => ?_) (fun c => ?_)
  · have c2 : i < parts.length := by omega
    contradiction
    refine w_ixl (ls_of at6) (by rw [atI_1]) ?_
    contradiction
    refine w_ixl (ls_of at6) (by rw [atI_2]) ?_
    contradiction
    refine w_ixl (ls_of at5) (at_map c2) ?_
    contradiction
    refine wB_dec (fun d => ?_) (fun d => ?_)
    · contradiction
      refine w_fdiv wd ?_
      contradiction
      refine w_ixl (ls_of at6) (by rw [atI_1]) ?_
      contradiction
      refine w_ixl (ls_of at6) (by rw [atI_2]) ?_
      contradiction
      refine wPut_l (ys := (parts.set i ((parts[i]'c2).fdiv k)).map D.int) at5 (j := i) (by simp [ixN]; omega) (by rw [List.map_set]) ?_
      rw [dq_set5 hX]
      contradiction
      refine w_mod (by omega) ?_
      contradiction
      refine kR_same (q _ _ (vk _).1 (vk _).2 (mk _ i j (by rw [List.length_set]; exact p64) (fun n hn => ?_) (by rw [List.length_set]; exact ip) (by omega))) (by rw [len, len])
      rcases List.mem_or_eq_of_mem_set hn with hn | rfl
      · exact pn n hn
      · exact Int.fdiv_nonneg (pn _ (List.getElem_mem c2)) (by omega)
    · contradiction
      refine w_ixl (ls_of at6) (by rw [atI_2]) ?_
      contradiction
      refine wPut_l (ys := [.loc 4, .loc 5, .int ((i : Int) + 1), .int (j : Int)]) at6 (j := 2) rfl rfl ?_
      rw [dq_set6 hX]
      contradiction
      refine ⟨⟨i + 1, _, c2, rfl, rfl⟩, ?_⟩
      have e1 : ∀ a b c : Ob, (X ++ ([a, b, c] ++ rest))[6]? = some c := fun a b c => at6
      simp only [e1]
      omega
  · contradiction
    refine w_ixl (ls_of at6) (by rw [atI_3]) ?_
    contradiction
    refine wPut_l (ys := [.loc 4, .loc 5, .int (i : Int), .int ((j : Int) + 1)]) at6 (j := 3) rfl rfl ?_
    rw [dq_set6 hX]
    contradiction
    refine w_ixl (ls_of at6) (by rw [atI_0]) ?_
    contradiction
    refine w_ixl (ls_of at6) (by rw [atI_3]) ?_
    contradiction
    refine w_ixl (ls_of at6) (by rw [atI_0]) ?_
    contradiction
    refine w_lenl (ls_of at4) ?_
    contradiction
    rw [List.length_map]
    have l0 : (ones.length : Int) ≠ 0 := by
      cases ones with
      | nil => exact absurd rfl one0
      | cons a as => simp; omega
    refine w_mod l0 ?_
    contradiction
    have m1 := Int.fmod_nonneg_of_pos ((j : Int) + 1) (show 0 < (ones.length : Int) by omega)
    have m2 := Int.fmod_lt_of_pos ((j : Int) + 1) (show 0 < (ones.length : Int) by omega)
    obtain ⟨n, hn⟩ : ∃ n : Nat, ((j : Int) + 1).fmod (ones.length : Int) = (n : Int) := ⟨(((j : Int) + 1).fmod (ones.length : Int)).toNat, by omega⟩
    rw [hn]
    refine w_ixl (ls_of at4) (at_map (show n < ones.length by omega)) ?_
    contradiction
    refine w_mod (by decide) ?_
    contradiction
    refine w_ixl (ls_of at6) (by rw [atI_3]) ?_
    contradiction
    have o1 := Int.fmod_nonneg_of_pos (ones[n]'(by omega)) (show (0 : Int) < 1000003 by decide)
    have o2 := Int.fmod_lt_of_pos (ones[n]'(by omega)) (show (0 : Int) < 1000003 by decide)
    generalize (ones[n]'(by omega)).fmod 1000003 = o at o1 o2
    refine w_mul (wideM_of (a := 22) (b := 40) (by omega) (by omega)) ?_
    contradiction
    refine w_ixl (ls_of at6) (by rw [atI_3]) ?_
    contradiction
    refine w_mul (wideM_of (a := 22) (b := 40) (by omega) (by omega)) ?_
    contradiction
    have big : ((o + 5) * ((j : Int) + 1 + 2) + 7919 * ((j : Int) + 1)).natAbs < 2 ^ 64 := by
      have h1 := Int.mul_le_mul (show o + 5 ≤ 1000008 by omega) (show (j : Int) + 1 + 2 ≤ 1073741827 by omega) (by omega) (by omega)
      have h2 := Int.mul_nonneg (show 0 ≤ o + 5 by omega) (show 0 ≤ (j : Int) + 1 + 2 by omega)
      omega
    refine w_2 (x_pow ⟨by decide, by decide, big⟩) ?_
    contradiction
    refine w_mod (by decide) ?_
    contradiction
    refine w_fdiv ⟨by decide, by decide⟩ ?_
    contradiction
    refine w_mod (by omega) ?_
    contradiction
    exact kR_same (q _ _ (vk _).1 (vk _).2 (mk parts i (j + 1) p64 pn ip (by omega))) (by rw [len, len])
end Cl

namespace Cl
open PySem PySem.Spec PyProof.Rows L2 ML RT
theorem wI_rol {env : En} {i l : Nat} {xs : List D} {S : Sto} {QI : List D → List (Nat × Ob) → Sto → Prop} (hv : env[i]? = some (some (.loc l))) (h : S[l]? = some (.rol xs)) (q : QI xs [(l, .rol xs)] S) : wI (iSeq (eVar i)) env S QI := by
  refine ⟨⟨xs, [(l, .rol xs)]⟩, S, ?_, q⟩
  unfold iSeq
  have e : eVar i env S = some (.loc l, S) := by unfold eVar; rw [hv]
  rw [e, Option.bind_some]
  simp only [h]
theorem w_deck {ns : List Int} (hl : ns.length ≤ 63) {Q : D → Sto → Prop} (q : ∀ T, Dq 0 [] T → Q (.loc 6) T) : wF d__law_deck [.loc 0] [.rol (ns.map D.int)] Q := by
  apply w_mk
  focus ((repeat (first | apply InitR.s | apply InitR.z)); repeat (first | exact RepR.z | apply RepR.s))
  focus rfl
  iterate 5 infer_instance
  refine wI_rol (l := 0) rfl rfl ?_
  refine w_linv (fun i ys T => T = [.rol (ns.map D.int)] ∧ ys = ((ns.take i).map fun n => (n.natAbs : Int)).map D.int) ⟨rfl, rfl⟩ (fun i ys T hT => by
    rintro p hp
    rw [List.mem_singleton] at hp
    subst hp
    rw [hT.1]
    rfl) (by rw [List.length_map]; omega) ?_ ?_
  · rintro i d ys T hi - ⟨rfl, rfl⟩
    rw [List.getElem?_map] at hi
    obtain ⟨n, hn, rfl⟩ := Option.map_eq_some_iff.mp hi
    contradiction
    refine ⟨rfl, ?_⟩
    rw [List.take_add_one, hn, List.map_append, List.map_append]
    rfl
  rintro ys T - ⟨rfl, rfl⟩
  rw [List.length_map, List.take_length]
  contradiction
  refine w_lenl (xs := ns.map D.int) rfl ?_
  contradiction
  rw [List.length_map]
  obtain ⟨ab, eab⟩ : ∃ ab : List Int, ab = ns.map fun n => (n.natAbs : Int) := ⟨_, rfl⟩
  obtain ⟨rep, t, ht, hrep, hne⟩ : ∃ (rep : List Int) (t : Nat), (if decide ((ns.length : Int) = 0) = true then (1 : Int) else 0) = (t : Int) ∧ (t ≤ 1 ∧ (List.replicate t [D.int 3]).flatten = rep.map D.int ∧ rep.length ≤ 1 ∧ ∀ n ∈ rep, (0 : Int) ≤ n) ∧ ab ++ rep ≠ [] := by
    cases ns with
    | nil => exact ⟨[3], 1, rfl, ⟨by decide, rfl, by decide, fun n hn => by rw [List.mem_singleton] at hn; omega⟩, by simp⟩
    | cons a as =>
      refine ⟨[], 0, ?_, ⟨by decide, rfl, by decide, fun n hn => nomatch hn⟩, by rw [eab]; simp⟩
      rw [if_neg]
      · rfl
      · simp
        omega
  have abn : ∀ n ∈ ab, (0 : Int) ≤ n := fun n hn => by
    rw [eab] at hn
    obtain ⟨k, -, rfl⟩ := List.mem_map.mp hn
    omega
  have abl : ab.length = ns.length := by rw [eab, List.length_map]
  rw [← eab]
  rw [ht]
  refine w_mulll (xs := [.int 3]) rfl ⟨by omega, by omega, by simp; omega⟩ ?_
  rw [Int.toNat_natCast, hrep.2.1]
  contradiction
  refine w_addll (xs := ab.map D.int) (ys := rep.map D.int) rfl rfl (by simp; omega) ?_
  rw [← List.map_append]
  contradiction
  obtain ⟨ones, eo⟩ : ∃ ones, ones = ab ++ rep := ⟨_, rfl⟩
  rw [← eo]
  have o64 : ones.length ≤ 64 := by rw [eo, List.length_append]; omega
  have on : ∀ n ∈ ones, (0 : Int) ≤ n := fun n hn => by
    rw [eo] at hn
    rcases List.mem_append.mp hn with hn | hn
    · exact abn n hn
    · exact hrep.2.2.2 n hn
  obtain ⟨S5, e5⟩ : ∃ S5, S5 = [Ob.rol (ns.map D.int)] ++ [Ob.lst (ab.map D.int)] ++ [Ob.lst [D.int 3]] ++ [Ob.lst (rep.map D.int)] ++ [Ob.lst (ones.map D.int)] := ⟨_, rfl⟩
  rw [← e5]
  have l5 : ([Ob.rol (ns.map D.int)] ++ [Ob.lst (ab.map D.int)] ++ [Ob.lst [D.int 3]] ++ [Ob.lst (rep.map D.int)]).length = 4 := rfl
  rw [l5]
  have g4 : S5[4]? = some (.lst (ones.map D.int)) := by rw [e5]; rfl
  refine wSeq_l g4 ?_
  refine w_linv (fun i ys T => T = S5 ∧ ∃ ps : List Int, ys = ps.map D.int ∧ ps.length ≤ i ∧ ∀ n ∈ ps, 0 ≤ n) ⟨rfl, [], rfl, Nat.le_refl _, fun _ h => nomatch h⟩ (fun i ys T hT => by
    rintro p hp
    rw [List.mem_singleton] at hp
    subst hp
    rw [hT.1]
    exact g4) (by rw [List.length_map]; omega) ?_ ?_
  · rintro i d ys T hi - ⟨rfl, ps, rfl, lp, pn⟩
    rw [List.getElem?_map] at hi
    obtain ⟨n, hn, rfl⟩ := Option.map_eq_some_iff.mp hi
    contradiction
    refine wB_dec (fun c => ?_) (fun c => ?_)
    · contradiction
      refine ⟨rfl, ps ++ [n], by rw [List.map_append]; rfl, by rw [List.length_append]; simp; omega, fun m hm => ?_⟩
      rcases List.mem_append.mp hm with hm | hm
      · exact pn m hm
      · rw [List.mem_singleton] at hm
        rw [hm]
        exact on n (List.mem_of_getElem? hn)
    · contradiction
      exact ⟨rfl, ps, rfl, by omega, pn⟩
  rintro ys T - ⟨rfl, ps, rfl, lp, pn⟩
  rw [List.length_map] at lp
  contradiction
  have lT : T.length = 5 := by rw [e5]; rfl
  rw [show (T ++ [Ob.lst (ps.map D.int)]).length = 6 by rw [List.length_append, lT]; rfl, lT]
  refine kR_loc (q _ ⟨[Ob.rol (ns.map D.int), Ob.lst (ab.map D.int), Ob.lst [D.int 3], Ob.lst (rep.map D.int)], ones, ps, 0, 0, rfl, by rw [e5]; rfl, by rw [eo]; exact hne, o64, on, by omega, pn, by omega, by omega, fun o ho => ?_⟩) (Nat.le_of_ble_eq_true rfl)
  have bi : ∀ xs : List Int, D.belL 0 (xs.map D.int) = true := fun xs => by
    induction xs with
    | nil => rfl
    | cons x xs ih =>
      simp only [List.map_cons, D.belL, Bool.and_eq_true]
      exact ⟨rfl, ih⟩
  simp only [List.mem_cons, List.not_mem_nil, or_false] at ho
  rcases ho with rfl | rfl | rfl | rfl
  · exact bi _
  · exact bi _
  · rfl
  · exact bi _
end Cl

namespace Cl
open PySem PySem.Spec PyProof.Rows L2 ML RT
theorem wide_n {j : Int} (h0 : 0 < j) (h1 : j < 1000) : wideD j := ⟨by omega, Nat.lt_of_lt_of_le (log2_lt (n := j.natAbs) (k := 10) (by omega) (by decide)) (by decide)⟩
theorem w_number {m : Nat} {rest : List Ob} {S : Sto} {Q : D → Sto → Prop} {f : Int} (h : Dq m rest S) (hm : m < 2 ^ 20) (f0 : 1 ≤ f) (f1 : f ≤ 10) (q : ∀ x T, Sz 10 x → Dq (m + 2) rest T → Q (rq x) T) : wF d__law_number [.loc 6, .int f] S Q := by
  trivial
  refine w_take h (by omega) (by decide) (by decide) fun v S1 v0 v1 h1 => ?_
  obtain ⟨b, hb, b0, b1⟩ : ∃ b : Int, atI [D.int 1, .int 1, .int 1, .int 1, .int 2, .int 3] v = some (.int b) ∧ 1 ≤ b ∧ b ≤ 3 := by
    rcases (show v = 0 ∨ v = 1 ∨ v = 2 ∨ v = 3 ∨ v = 4 ∨ v = 5 by omega) with rfl | rfl | rfl | rfl | rfl | rfl
    · exact ⟨1, rfl, by decide, by decide⟩
    · exact ⟨1, rfl, by decide, by decide⟩
    · exact ⟨1, rfl, by decide, by decide⟩
    · exact ⟨1, rfl, by decide, by decide⟩
    · exact ⟨2, rfl, by decide, by decide⟩
    · exact ⟨3, rfl, by decide, by decide⟩
  refine w_ix hb ?_
  contradiction
  refine w_mul (wideM_of (a := 22) (b := 40) (by omega) (by omega)) ?_
  contradiction
  have fb : 1 ≤ f * b ∧ f * b ≤ 30 := by
    have h1 := Int.mul_le_mul f1 b1 (by omega) (by omega)
    have h2 := Int.mul_le_mul f0 b0 (by omega) (by omega)
    omega
  have e2 : 2 * f * b = 2 * (f * b) := Int.mul_assoc ..
  refine w_mul (wideM_of (a := 22) (b := 40) (by omega) (by omega)) ?_
  contradiction
  refine w_take h1 (by omega) (by omega) (wide_n (by omega) (by omega)) fun u S2 u0 u1 h2 => ?_
  contradiction
  refine w_mul (wideM_of (a := 22) (b := 40) (by omega) (by omega)) ?_
  contradiction
  refine w_part (by omega) (by omega) ?_
  contradiction
  exact kR_same (q _ _ (sz_div (by omega) (by omega) (by omega)) h2) (by rw [h2.len, h.len])
structure RZ3 (n : Nat) (x y z : Rat) : Prop where
  x : Sz n x
  y : Sz n y
  z : Sz n z
theorem w_point {m : Nat} {rest : List Ob} {S : Sto} {Q : D → Sto → Prop} {f : Int} (h : Dq m rest S) (hm : m < 2 ^ 19) (f0 : 1 ≤ f) (f1 : f ≤ 10) (q : ∀ x y z T, RZ3 10 x y z → Dq (m + 6) rest T → Q (rp x y z) T) : wF d__law_point [.loc 6, .int f] S Q := by
  trivial
  refine w_number h (by omega) f0 f1 fun a S1 ha h1 => ?_
  contradiction
  refine w_number h1 (by omega) f0 f1 fun b S2 hb h2 => ?_
  contradiction
  refine w_number h2 (by omega) f0 f1 fun c S3 hc h3 => ?_
  contradiction
  exact kR_same (q _ _ _ _ ⟨ha, hb, hc⟩ (h3.mono (by omega))) (by rw [h3.len, h.len])
end Cl

namespace Cl
open PySem PySem.Spec PyProof.Rows L2 ML RT
theorem gX {S X : Sto} {l : Nat} {o : Ob} (h : S[l]? = some o) : (S ++ X)[l]? = some o := by rw [List.getElem?_append_left (List.getElem?_eq_some_iff.mp h).1]; exact h
theorem g0 {S : Sto} {o : Ob} : (S ++ [o])[S.length]? = some o := by rw [List.getElem?_append_right (Nat.le_refl _), Nat.sub_self]; rfl
theorem Dq.split {m : Nat} {rest more : List Ob} {T : Sto} (h : Dq m (rest ++ more) T) : ∃ V, T = V ++ more ∧ Dq m rest V := by
  obtain ⟨X, ones, parts, i, j, a1, a2, r⟩ := h.ex
  exact ⟨X ++ ([.lst (ones.map D.int), .lst (parts.map D.int), .lst [.loc 4, .loc 5, .int (i : Int), .int (j : Int)]] ++ rest), by rw [a2]; simp, X, ones, parts, i, j, a1, rfl, r⟩
theorem belL_int (xs : List Int) (n : Nat) : D.belL n (xs.map D.int) = true := by
  induction xs with
  | nil => rfl
  | cons x xs ih =>
    simp only [List.map_cons, D.belL, Bool.and_eq_true]
    exact ⟨rfl, ih⟩
theorem Dq.wf {m : Nat} {S : Sto} (h : Dq m [] S) : Wf S := by
  have l := h.len
  obtain ⟨X, ones, parts, i, j, a1, rfl, -, -, -, -, -, -, -, xb⟩ := h.ex
  intro o ho
  rw [l]
  rcases List.mem_append.mp ho with ho | ho
  · exact ob_mono (Nat.zero_le _) o (xb o ho)
  · simp only [List.append_nil, List.mem_cons, List.not_mem_nil, or_false] at ho
    rcases ho with rfl | rfl | rfl
    · exact belL_int _ _
    · exact belL_int _ _
    · rfl
theorem kR_dq {m : Nat} {more : List Ob} {T : Sto} {n : Nat} {d : D} {env : En} {Q : D → Sto → Prop} (h : Dq m more T) (hn : n = 7) (hd : d.bel 7 = true) (q : ∀ V, Dq m [] V → Q d V) : kR n Q (.rt d) env T := by
  obtain ⟨V, rfl, hV⟩ := Dq.split (rest := []) (by rw [List.nil_append]; exact h)
  have l := hV.len
  exact kR_wf hV.wf (by rw [hn]; exact hd) (by rw [l, hn]; rfl) (q V hV)
theorem rep3 (d : D) : (List.replicate (3 : Int).toNat [d]).flatten = [d, d, d] := rfl
/-- a way that isn't nought -/
structure WZ (x y z : Rat) : Prop where
  sz : RZ3 900 x y z
  nn : ¬ (x = 0 ∧ y = 0 ∧ z = 0)
theorem pd3 (x y z : Rat) : pdL 5 [rq x, rq y, rq z] = true := rfl
theorem setR {x y z w : Rat} {j : Int} (h0 : 0 ≤ j) (h1 : j < 3) : ∃ (n : Nat) (x' y' z' : Rat), ixN [rq x, rq y, rq z].length j = some n ∧ [rq x, rq y, rq z].set n (rq w) = [rq x', rq y', rq z'] ∧ ((x' = w ∧ y' = y ∧ z' = z ∧ n = 0) ∨ (x' = x ∧ y' = w ∧ z' = z ∧ n = 1) ∨ (x' = x ∧ y' = y ∧ z' = w ∧ n = 2)) ∧ (n : Int) = j := by
  rcases (show j = 0 ∨ j = 1 ∨ j = 2 by omega) with rfl | rfl | rfl
  · exact ⟨0, w, y, z, rfl, rfl, .inl ⟨rfl, rfl, rfl, rfl⟩, rfl⟩
  · exact ⟨1, x, w, z, rfl, rfl, .inr (.inl ⟨rfl, rfl, rfl, rfl⟩), rfl⟩
  · exact ⟨2, x, y, w, rfl, rfl, .inr (.inr ⟨rfl, rfl, rfl, rfl⟩), rfl⟩
theorem gZ {S : Sto} {o : Ob} {X : List Ob} : (S ++ ([o] ++ X))[S.length]? = some o := by
  rw [List.getElem?_append_right (Nat.le_refl _), Nat.sub_self]
  rfl
/-- the last of a way: no way is nought -/
theorem way_cmp {x y z : Rat} {S3 : Sto} {X : List Ob} : ∃ k, cEq (.loc S3.length) (.loc (S3 ++ ([Ob.lst [rq x, rq y, rq z]] ++ X)).length) (S3 ++ ([Ob.lst [rq x, rq y, rq z]] ++ X) ++ [.lst [rq 0, rq 0, rq 0]]) = some (.bl k, S3 ++ ([Ob.lst [rq x, rq y, rq z]] ++ X) ++ [.lst [rq 0, rq 0, rq 0]]) ∧ (k = true ↔ (x = 0 ∧ y = 0 ∧ z = 0)) := by
  obtain ⟨k, e, hk⟩ := eqP_ll (S := S3 ++ ([Ob.lst [rq x, rq y, rq z]] ++ X) ++ [.lst [rq 0, rq 0, rq 0]]) (l := S3.length) (i := (S3 ++ ([Ob.lst [rq x, rq y, rq z]] ++ X)).length) (xs := [rq x, rq y, rq z]) (ys := [rq 0, rq 0, rq 0]) (ls_of (gX gZ)) (ls_of g0) (pd3 _ _ _) (pd3 _ _ _)
  refine ⟨k, by rw [cEq, e]; rfl, ?_⟩
  rw [hk]
  simp only [List.cons.injEq, rq_inj, and_true]
theorem w_way {m : Nat} {S : Sto} {Q : D → Sto → Prop} (h : Dq m [] S) (hm : m < 2 ^ 19) (q : ∀ x y z T, WZ x y z → Dq (m + 4) [] T → Q (rp x y z) T) : wF d__law_way [.loc 6] S Q := by
  have lS := h.len
  trivial
  refine w_take h (by omega) (by decide) (by decide) fun a S1 a0 a1 h1 => ?_
  contradiction
  refine w_take h1 (by omega) (by decide) (by decide) fun b S2 b0 b1 h2 => ?_
  contradiction
  refine w_take h2 (by omega) (by decide) (by decide) fun c S3 c0 c1 h3 => ?_
  contradiction
  obtain ⟨x, ex⟩ : ∃ x : Int, x = a - 3 := ⟨_, rfl⟩
  obtain ⟨y, ey⟩ : ∃ x : Int, x = b - 3 := ⟨_, rfl⟩
  obtain ⟨z, ez⟩ : ∃ x : Int, x = c - 3 := ⟨_, rfl⟩
  rw [← ex, ← ey, ← ez]
  rw [show D.tup [.int x, .int 1] = rq (x : Rat) from rfl, show D.tup [.int y, .int 1] = rq (y : Rat) from rfl, show D.tup [.int z, .int 1] = rq (z : Rat) from rfl]
  have zz : RZ3 900 (x : Rat) (y : Rat) (z : Rat) := ⟨(sz_int (k := 4) (by omega)).mono (by decide), (sz_int (k := 4) (by omega)).mono (by decide), (sz_int (k := 4) (by omega)).mono (by decide)⟩
  generalize (x : Rat) = x at zz
  generalize (y : Rat) = y at zz
  generalize (z : Rat) = z at zz
  have l3 := h3.len
  refine w_mulll (xs := [rq 0]) g0 ⟨by decide, by decide, by decide⟩ ?_
  rw [rep3]
  obtain ⟨k, ek, hk⟩ := way_cmp (x := x) (y := y) (z := z) (S3 := S3) (X := [.lst [rq 0]])
  rw [show S3 ++ ([Ob.lst [rq x, rq y, rq z]] ++ [.lst [rq 0]]) = S3 ++ [.lst [rq x, rq y, rq z]] ++ [.lst [rq 0]] by simp] at ek
  refine w_2 ek ?_
  have h4 : Dq (m + 1 + 1 + 1) ([] ++ [Ob.lst [rq x, rq y, rq z]] ++ [.lst [rq 0]] ++ [.lst [rq 0, rq 0, rq 0]]) (S3 ++ [.lst [rq x, rq y, rq z]] ++ [.lst [rq 0]] ++ [.lst [rq 0, rq 0, rq 0]]) := h3.app.app.app
  rw [l3]
  cases k with
  | false =>
    contradiction
    refine w_tupl (ls_of ((h4.get 0).trans rfl)) ?_
    contradiction
    exact kR_dq h4 lS rfl fun V hV => q _ _ _ _ ⟨zz, fun e => absurd (hk.mpr e) (by decide)⟩ (hV.mono (by omega))
  | true =>
    obtain ⟨rfl, rfl, rfl⟩ := hk.mp rfl
    contradiction
    refine w_take h4 (by omega) (by decide) (by decide) fun j T j0 j1 hT => ?_
    contradiction
    obtain ⟨n, x', y', z', e1, e2, e3, -⟩ := setR (x := 0) (y := 0) (z := 0) (w := 1) j0 j1
    refine wPut_l ((hT.get 0).trans rfl) e1 e2 ?_
    have h5 : Dq (m + 1 + 1 + 1 + 1) ([Ob.lst [rq x', rq y', rq z']] ++ [.lst [rq 0]] ++ [.lst [rq 0, rq 0, rq 0]]) (T.set 7 (.lst [rq x', rq y', rq z'])) := by
      obtain ⟨V, rfl, hV⟩ := Dq.split (rest := []) (more := [] ++ [Ob.lst [rq 0, rq 0, rq 0]] ++ [.lst [rq 0]] ++ [.lst [rq 0, rq 0, rq 0]]) hT
      have lV := hV.len
      rw [List.set_append_right _ _ (by rw [lV]; exact Nat.le_refl _), lV]
      exact hV.app (more := [Ob.lst [rq x', rq y', rq z']] ++ [.lst [rq 0]] ++ [.lst [rq 0, rq 0, rq 0]])
    contradiction
    refine w_tupl (ls_of ((h5.get 0).trans rfl)) ?_
    contradiction
    refine kR_dq h5 lS rfl fun V hV => q _ _ _ _ ⟨?_, ?_⟩ (hV.mono (by omega))
    · rcases e3 with ⟨rfl, rfl, rfl, -⟩ | ⟨rfl, rfl, rfl, -⟩ | ⟨rfl, rfl, rfl, -⟩ <;> exact ⟨by first | exact sz_0 | exact sz_1, by first | exact sz_0 | exact sz_1, by first | exact sz_0 | exact sz_1⟩
    · rcases e3 with ⟨rfl, rfl, rfl, -⟩ | ⟨rfl, rfl, rfl, -⟩ | ⟨rfl, rfl, rfl, -⟩ <;> (rintro ⟨e1, e2, e3⟩; first | exact absurd e1 (by decide) | exact absurd e2 (by decide) | exact absurd e3 (by decide))
end Cl

namespace Cl
open PySem PySem.Spec PyProof.Rows L2 ML RT
theorem islB {S : Sto} {l : Nat} {xs : List D} (h : S[l]? = some (.lst xs)) : isLs S (.loc l) = true := (congrArg Option.isSome (ls_of h)).trans rfl
theorem RZ3.mono {n m : Nat} {x y z : Rat} (h : RZ3 n x y z) (l : n ≤ m) : RZ3 m x y z := ⟨h.x.mono l, h.y.mono l, h.z.mono l⟩
/-- a closed box -/
structure BZ (a b c x y z : Rat) : Prop where
  l : RZ3 10 a b c
  h : RZ3 30 x y z
  x : a ≤ x
  y : b ≤ y
  z : c ≤ z
theorem grow_of {u v : Int} (u0 : 0 ≤ u) (u1 : u < 6) (v0 : 0 ≤ v) (v1 : v < 2) : Sz 10 (Rat.divInt u (1 + v)) ∧ 0 ≤ Rat.divInt u (1 + v) := by
  refine ⟨sz_div (by omega) (by omega) (by omega), ?_⟩
  rw [Rat.divInt_eq_div, Rat.div_def]
  exact Rat.mul_nonneg (Rat.intCast_nonneg.mpr u0) (Rat.le_of_lt (Rat.inv_pos.mpr (Rat.intCast_pos.mpr (by omega))))
theorem w_flat_box {m : Nat} {S : Sto} {Q : D → Sto → Prop} (h : Dq m [] S) (hm : m < 2 ^ 18) (q : ∀ a b c x y z T, BZ a b c x y z → Dq (m + 12) [] T → Q (.tup [rp a b c, rp x y z]) T) : wF d__law_flat_box [.loc 6] S Q := by
  have lS := h.len
  trivial
  refine w_point h (by omega) (by decide) (by decide) fun a b c S1 z1 h1 => ?_
  contradiction
  refine w_take h1 (by omega) (by decide) (by decide) fun u1 S2 u10 u11 h2 => ?_
  contradiction
  refine w_take h2 (by omega) (by decide) (by decide) fun v1 S3 v10 v11 h3 => ?_
  contradiction
  refine w_part (by omega) (by omega) ?_
  contradiction
  obtain ⟨g1, p1⟩ := grow_of u10 u11 v10 v11
  generalize Rat.divInt u1 (1 + v1) = t1 at g1 p1
  refine w_plus (z1.x.mono (by decide)) (g1.mono (by decide)) ?_
  contradiction
  refine w_take h3 (by omega) (by decide) (by decide) fun u2 S4 u20 u21 h4 => ?_
  contradiction
  refine w_take h4 (by omega) (by decide) (by decide) fun v2 S5 v20 v21 h5 => ?_
  contradiction
  refine w_part (by omega) (by omega) ?_
  contradiction
  obtain ⟨g2, p2⟩ := grow_of u20 u21 v20 v21
  generalize Rat.divInt u2 (1 + v2) = t2 at g2 p2
  refine w_plus (z1.y.mono (by decide)) (g2.mono (by decide)) ?_
  contradiction
  refine w_take h5 (by omega) (by decide) (by decide) fun u3 S6 u30 u31 h6 => ?_
  contradiction
  refine w_take h6 (by omega) (by decide) (by decide) fun v3 S7 v30 v31 h7 => ?_
  contradiction
  refine w_part (by omega) (by omega) ?_
  contradiction
  obtain ⟨g3, p3⟩ := grow_of u30 u31 v30 v31
  generalize Rat.divInt u3 (1 + v3) = t3 at g3 p3
  refine w_plus (z1.z.mono (by decide)) (g3.mono (by decide)) ?_
  contradiction
  exact kR_same (q _ _ _ _ _ _ _ ⟨z1, ⟨(sz_add z1.x g1).mono (by decide), (sz_add z1.y g2).mono (by decide), (sz_add z1.z g3).mono (by decide)⟩, by grind, by grind, by grind⟩ (h7.mono (by omega))) (by rw [h7.len, h.len])
theorem rq_h2 : D.tup [.int 1, .int 2] = rq (1 / 2) := by
  rw [rq, show (1 / 2 : Rat).num = 1 from by decide +kernel, show (1 / 2 : Rat).den = 2 from by decide +kernel]
  rfl
theorem rq_h3 : D.tup [.int 1, .int 3] = rq (1 / 3) := by
  rw [rq, show (1 / 3 : Rat).num = 1 from by decide +kernel, show (1 / 3 : Rat).den = 3 from by decide +kernel]
  rfl
theorem part4 {v : Int} (h0 : 0 ≤ v) (h1 : v < 4) : ∃ t : Rat, atI [D.tup [.int 0, .int 1], .tup [.int 1, .int 1], .tup [.int 1, .int 2], .tup [.int 1, .int 3]] v = some (rq t) ∧ Sz 10 t := by
  rcases (show v = 0 ∨ v = 1 ∨ v = 2 ∨ v = 3 by omega) with rfl | rfl | rfl | rfl
  · exact ⟨0, rfl, sz_0⟩
  · exact ⟨1, rfl, sz_1⟩
  · exact ⟨1 / 2, by rw [← rq_h2]; rfl, ⟨by decide +kernel, by decide +kernel⟩⟩
  · exact ⟨1 / 3, by rw [← rq_h3]; rfl, ⟨by decide +kernel, by decide +kernel⟩⟩
theorem w_spot {m : Nat} {S : Sto} {Q : D → Sto → Prop} {a b c x y z : Rat} (bz : BZ a b c x y z) (h : Dq m [] S) (hm : m < 2 ^ 18) (q : ∀ r s t T, RZ3 100 r s t → Dq (m + 4) [] T → Q (rp r s t) T) : wF d__law_spot_of [.loc 6, .tup [rp a b c, rp x y z]] S Q := by
  have lS := h.len
  obtain ⟨⟨l1, l2, l3⟩, ⟨k1, k2, k3⟩, -, -, -⟩ := bz
  have h0 := h.app (more := [.lst []])
  have zz : ∀ {t a x : Rat}, Sz 10 t → Sz 10 a → Sz 30 x → Sz 41 (x - a) ∧ Sz 60 (t * (x - a)) ∧ Sz 100 (a + t * (x - a)) := fun ht ha hx => by
    have s1 : Sz 41 (_ - _) := (sz_sub hx ha).mono (by decide)
    have s2 : Sz 60 (_ * (_ - _)) := (sz_mul ht s1).mono (by decide)
    exact ⟨s1, s2, (sz_add ha s2).mono (by decide)⟩
  trivial
  rw [lS]
  have sete : ∀ {m : Nat} {xs ys : List D} {T : Sto}, Dq m [.lst xs] T → Dq m [.lst ys] (T.set 7 (.lst ys)) := fun {m xs ys T} hT => by
    obtain ⟨V, rfl, hV⟩ := Dq.split (rest := []) (more := [Ob.lst xs]) hT
    have lV := hV.len
    rw [List.set_append_right _ _ (by rw [lV]; exact Nat.le_refl _), lV]
    exact hV.app (more := [Ob.lst ys])
  refine w_rcons srcOk_nil ?_
  contradiction
  refine w_take h0 (by omega) (by decide) (by decide) fun v1 S1 v10 v11 h1 => ?_
  obtain ⟨t1, e1, s1⟩ := part4 v10 v11
  contradiction
  refine w_ix e1 ?_
  contradiction
  refine ⟨islB ((h1.get 0).trans rfl), ?_⟩
  contradiction
  refine w_less (k1.mono (by decide)) (l1.mono (by decide)) ?_
  contradiction
  refine w_times (s1.mono (by decide)) ((zz s1 l1 k1).1.mono (by decide)) ?_
  contradiction
  refine w_plus (l1.mono (by decide)) ((zz s1 l1 k1).2.1.mono (by decide)) ?_
  contradiction
  refine w_append ((h1.get 0).trans rfl) (by decide) ?_
  have h2 := sete (ys := [] ++ [rq (a + t1 * (x - a))]) h1
  contradiction
  refine w_rcons srcOk_nil ?_
  contradiction
  refine w_take h2 (by omega) (by decide) (by decide) fun v2 S2 v20 v21 h3 => ?_
  obtain ⟨t2, e2, s2⟩ := part4 v20 v21
  contradiction
  refine w_ix e2 ?_
  contradiction
  refine ⟨islB ((h3.get 0).trans rfl), ?_⟩
  contradiction
  refine w_less (k2.mono (by decide)) (l2.mono (by decide)) ?_
  contradiction
  refine w_times (s2.mono (by decide)) ((zz s2 l2 k2).1.mono (by decide)) ?_
  contradiction
  refine w_plus (l2.mono (by decide)) ((zz s2 l2 k2).2.1.mono (by decide)) ?_
  contradiction
  refine w_append ((h3.get 0).trans rfl) (Nat.le_of_ble_eq_true rfl) ?_
  have h4 := sete (ys := [] ++ [rq (a + t1 * (x - a))] ++ [rq (b + t2 * (y - b))]) h3
  contradiction
  refine w_rcons srcOk_nil ?_
  contradiction
  refine w_take h4 (by omega) (by decide) (by decide) fun v3 S3 v30 v31 h5 => ?_
  obtain ⟨t3, e3, s3⟩ := part4 v30 v31
  contradiction
  refine w_ix e3 ?_
  contradiction
  refine ⟨islB ((h5.get 0).trans rfl), ?_⟩
  contradiction
  refine w_less (k3.mono (by decide)) (l3.mono (by decide)) ?_
  contradiction
  refine w_times (s3.mono (by decide)) ((zz s3 l3 k3).1.mono (by decide)) ?_
  contradiction
  refine w_plus (l3.mono (by decide)) ((zz s3 l3 k3).2.1.mono (by decide)) ?_
  contradiction
  refine w_append ((h5.get 0).trans rfl) (Nat.le_of_ble_eq_true rfl) ?_
  have h6 := sete (ys := [] ++ [rq (a + t1 * (x - a))] ++ [rq (b + t2 * (y - b))] ++ [rq (c + t3 * (z - c))]) h5
  contradiction
  refine w_tupl (ls_of ((h6.get 0).trans rfl)) ?_
  contradiction
  exact kR_dq h6 rfl rfl fun V hV => q _ _ _ _ ⟨(zz s1 l1 k1).2.2, (zz s2 l2 k2).2.2, (zz s3 l3 k3).2.2⟩ (hV.mono (by omega))
end Cl

namespace Cl
open PySem PySem.Spec PyProof.Rows L2 ML RT
theorem addT {xs ys : List D} (h : xs.length + ys.length ≤ 1000) (S : Sto) : gAdd (.tup xs) (.tup ys) S = some (.tup (xs ++ ys), S) := by
  show (if xs.length + ys.length ≤ sizeLine then some (D.tup (xs ++ ys), S) else none) = _
  rw [if_pos (by rw [sizeLine_eq]; omega)]
theorem w_putr {a b c d : Rat} {j : Int} (j0 : 0 ≤ j) (j1 : j < 3) {S : Sto} {Q : D → Sto → Prop} (q : ∀ x y z, ((x = d ∧ y = b ∧ z = c) ∨ (x = a ∧ y = d ∧ z = c) ∨ (x = a ∧ y = b ∧ z = d)) → Q (rp x y z) S) : wF d__law_put [rp a b c, .int j, rq d] S Q := by
  rw [show rp a b c = .tup [rq a, rq b, rq c] from rfl]
  rcases (show j = 0 ∨ j = 1 ∨ j = 2 by omega) with rfl | rfl | rfl
  · trivial
    refine w_osome ?_
    contradiction
    refine ⟨0, rfl, ?_⟩
    refine wSl_t ?_
    rw [show cutD [rq a, rq b, rq c] none (some 0) = [] from rfl]
    contradiction
    refine w_2 (addT (by simp) _) ?_
    contradiction
    refine w_osome ?_
    contradiction
    refine ⟨1, rfl, ?_⟩
    contradiction
    rw [show cutD [rq a, rq b, rq c] (some 1) none = [rq b, rq c] from rfl]
    refine w_2 (addT (by simp) _) ?_
    contradiction
    exact kR_same (q d b c (.inl ⟨rfl, rfl, rfl⟩))
  · trivial
    refine w_osome ?_
    contradiction
    refine ⟨1, rfl, ?_⟩
    refine wSl_t ?_
    rw [show cutD [rq a, rq b, rq c] none (some 1) = [rq a] from rfl]
    contradiction
    refine w_2 (addT (by simp) _) ?_
    contradiction
    refine w_osome ?_
    contradiction
    refine ⟨2, rfl, ?_⟩
    contradiction
    rw [show cutD [rq a, rq b, rq c] (some 2) none = [rq c] from rfl]
    refine w_2 (addT (by simp) _) ?_
    contradiction
    exact kR_same (q a d c (.inr (.inl ⟨rfl, rfl, rfl⟩)))
  · trivial
    refine w_osome ?_
    contradiction
    refine ⟨2, rfl, ?_⟩
    refine wSl_t ?_
    rw [show cutD [rq a, rq b, rq c] none (some 2) = [rq a, rq b] from rfl]
    contradiction
    refine w_2 (addT (by simp) _) ?_
    contradiction
    refine w_osome ?_
    contradiction
    refine ⟨3, rfl, ?_⟩
    contradiction
    rw [show cutD [rq a, rq b, rq c] (some 3) none = [] from rfl]
    refine w_2 (addT (by simp) _) ?_
    contradiction
    exact kR_same (q a b d (.inr (.inr ⟨rfl, rfl, rfl⟩)))
end Cl

namespace Cl
open PySem PySem.Spec PyProof.Rows L2 ML RT
theorem pick3 {x y z : Rat} {n : Nat} (h : RZ3 n x y z) {j : Int} (j0 : 0 ≤ j) (j1 : j < 3) : ∃ d, atI [rq x, rq y, rq z] j = some (rq d) ∧ Sz n d := by
  rcases (show j = 0 ∨ j = 1 ∨ j = 2 by omega) with rfl | rfl | rfl
  · exact ⟨x, by rw [atI_0], h.x⟩
  · exact ⟨y, by rw [atI_1], h.y⟩
  · exact ⟨z, by rw [atI_2], h.z⟩
theorem w_ray_by {m : Nat} {S : Sto} {Q : D → Sto → Prop} {a b c x y z : Rat} (bz : BZ a b c x y z) (h : Dq m [] S) (hm : m < 2 ^ 17) (q : ∀ a b c x y z T, RZ3 900 a b c → WZ x y z → Dq (m + 30) [] T → Q (.tup [rp a b c, rp x y z]) T) : wF d__law_ray_by [.loc 6, .tup [rp a b c, rp x y z]] S Q := by
  have lS := h.len
  trivial
  refine w_take h (by omega) (by decide) (by decide) fun k S1 k0 k1 h1 => ?_
  contradiction
  refine w_point h1 (by omega) (by decide) (by decide) fun p1 p2 p3 S2 zp h2 => ?_
  contradiction
  refine wB_dec (fun c0 => ?_) (fun c0 => ?_)
  · contradiction
    refine w_way h2 (by omega) fun u v w T zw hT => ?_
    contradiction
    exact kR_same (q _ _ _ _ _ _ _ (zp.mono (by decide)) zw (hT.mono (by omega))) (by rw [hT.len, h.len])
  contradiction
  refine wB_dec (fun c1 => ?_) (fun c1 => ?_)
  · contradiction
    refine w_spot bz h2 (by omega) fun r s t T zr hT => ?_
    contradiction
    refine w_way hT (by omega) fun u v w T zw hT => ?_
    contradiction
    exact kR_same (q _ _ _ _ _ _ _ (zr.mono (by decide)) zw (hT.mono (by omega))) (by rw [hT.len, h.len])
  contradiction
  refine w_spot bz h2 (by omega) fun r s t S3 zr h3 => ?_
  have l3 := h3.len
  contradiction
  refine w_less (zr.x.mono (by decide)) (zp.x.mono (by decide)) ?_
  contradiction
  refine w_less (zr.y.mono (by decide)) (zp.y.mono (by decide)) ?_
  contradiction
  refine w_less (zr.z.mono (by decide)) (zp.z.mono (by decide)) ?_
  repeat fail
  have wz : RZ3 900 (r - p1) (s - p2) (t - p3) := ⟨(sz_sub zr.x zp.x).mono (by decide), (sz_sub zr.y zp.y).mono (by decide), (sz_sub zr.z zp.z).mono (by decide)⟩
  have h4 : Dq (m + 20) [Ob.lst [rq (r - p1), rq (s - p2), rq (t - p3)]] (S3 ++ [.lst [rq (r - p1), rq (s - p2), rq (t - p3)]]) := (h3.mono (by omega)).app (more := [.lst [rq (r - p1), rq (s - p2), rq (t - p3)]])
  refine w_cut (fun e T => ∃ (a' b' c' x' y' z' : Rat) (x6 : Option D), RZ3 900 a' b' c' ∧ RZ3 900 x' y' z' ∧ Dq (m + 21) [Ob.lst [rq x', rq y', rq z']] T ∧ e = [some (.loc 6), some (.tup [rp a b c, rp x y z]), some (.int k), some (rp a' b' c'), some (rp r s t), some (.loc 7), x6, none, none]) ?_ ?_
  · contradiction
    rw [show S3.length = 7 from l3]
    refine wB_dec (fun c2 => ?_) (fun c2 => ?_)
    · contradiction
      refine w_take h4 (by omega) (by decide) (by decide) fun j T j0 j1 hT => ?_
      contradiction
      obtain ⟨n, x', y', z', e1, e2, e3, -⟩ := setR (x := r - p1) (y := s - p2) (z := t - p3) (w := 0) j0 j1
      refine wPut_l ((hT.get 0).trans rfl) e1 e2 ?_
      have h5 : Dq (m + 20 + 1) [Ob.lst [rq x', rq y', rq z']] (T.set 7 (.lst [rq x', rq y', rq z'])) := by
        obtain ⟨V, rfl, hV⟩ := Dq.split (rest := []) (more := [Ob.lst [rq (r - p1), rq (s - p2), rq (t - p3)]]) hT
        have lV := hV.len
        rw [List.set_append_right _ _ (by rw [lV]; exact Nat.le_refl _), lV]
        exact hV.app (more := [Ob.lst [rq x', rq y', rq z']])
      contradiction
      obtain ⟨d, ed, zd⟩ := pick3 zr j0 j1
      rw [show rp r s t = .tup [rq r, rq s, rq t] from rfl]
      refine w_ix ed ?_
      contradiction
      refine w_putr j0 j1 fun a' b' c' ha => ?_
      contradiction
      refine ⟨rfl, a', b', c', x', y', z', _, ?_, ?_, h5, rfl⟩
      · have m9 : ∀ {n : Nat} {s : Rat}, Sz n s → n ≤ 900 → Sz 900 s := fun h k => h.mono k
        rcases ha with ⟨rfl, rfl, rfl⟩ | ⟨rfl, rfl, rfl⟩ | ⟨rfl, rfl, rfl⟩
        · exact ⟨m9 zd (by decide), m9 zp.y (by decide), m9 zp.z (by decide)⟩
        · exact ⟨m9 zp.x (by decide), m9 zd (by decide), m9 zp.z (by decide)⟩
        · exact ⟨m9 zp.x (by decide), m9 zp.y (by decide), m9 zd (by decide)⟩
      · rcases e3 with ⟨rfl, rfl, rfl, -⟩ | ⟨rfl, rfl, rfl, -⟩ | ⟨rfl, rfl, rfl, -⟩
        · exact ⟨sz_0, wz.y, wz.z⟩
        · exact ⟨wz.x, sz_0, wz.z⟩
        · exact ⟨wz.x, wz.y, sz_0⟩
    · contradiction
      exact ⟨rfl, _, _, _, _, _, _, _, zp.mono (by decide), wz, h4.mono (by omega), rfl⟩
  · clear h4 wz
    rintro e T ⟨a', b', c', x', y', z', x6, za, zw, hT, rfl⟩
    repeat fail
    refine w_cut (fun e U => ∃ (x' y' z' : Rat) (V : Sto) (X : List Ob), RZ3 900 x' y' z' ∧ Dq (m + 21) X V ∧ U = V ++ [.lst [rq x', rq y', rq z']] ∧ e = [some (.loc 6), some (.tup [rp a b c, rp x y z]), some (.int k), some (rp a' b' c'), some (rp r s t), some (.loc V.length), x6, none, none]) ?_ ?_
    · contradiction
      refine wB_dec (fun c3 => ?_) (fun c3 => ?_)
      · contradiction
        have g7 : T[7]? = some (.lst [rq x', rq y', rq z']) := (hT.get 0).trans rfl
        refine wSeq_l g7 ?_
        refine w_linv (fun i ys U => U = T ∧ ys = ([-x', -y', -z'].take i).map rq) ⟨rfl, rfl⟩ (fun i ys U hU => by
          rintro p hp
          rw [List.mem_singleton] at hp
          subst hp
          rw [hU.1]
          exact g7) (by simp) ?_ ?_
        · rintro i d ys U hi - ⟨rfl, rfl⟩
          match i, hi with
          | 0, hi =>
            cases hi
            contradiction
            exact ⟨rfl, by rw [← rq_neg]; rfl⟩
          | 1, hi =>
            cases hi
            contradiction
            exact ⟨rfl, by rw [← rq_neg]; rfl⟩
          | 2, hi =>
            cases hi
            contradiction
            exact ⟨rfl, by rw [← rq_neg]; rfl⟩
          | i + 3, hi => simp at hi
        rintro ys U - ⟨rfl, rfl⟩
        contradiction
        exact ⟨rfl, -x', -y', -z', U, _, ⟨sz_neg zw.x, sz_neg zw.y, sz_neg zw.z⟩, hT, rfl, rfl⟩
      · contradiction
        obtain ⟨V, rfl, hV⟩ := Dq.split (rest := []) (more := [Ob.lst [rq x', rq y', rq z']]) hT
        have lV := hV.len
        exact ⟨rfl, x', y', z', V, [], zw, hV, rfl, by rw [lV]; rfl⟩
    · clear hT zw
      rintro e U ⟨x', y', z', V, X, zw, hV, rfl, rfl⟩
      contradiction
      refine w_mulll (xs := [rq 0]) g0 ⟨by decide, by decide, by decide⟩ ?_
      rw [rep3]
      obtain ⟨k', ek, hk⟩ := way_cmp (x := x') (y := y') (z := z') (S3 := V) (X := [.lst [rq 0]])
      rw [show V ++ ([Ob.lst [rq x', rq y', rq z']] ++ [.lst [rq 0]]) = V ++ [.lst [rq x', rq y', rq z']] ++ [.lst [rq 0]] by simp] at ek
      refine w_2 ek ?_
      have h4 : Dq (m + 21) (X ++ [Ob.lst [rq x', rq y', rq z']] ++ [.lst [rq 0]] ++ [.lst [rq 0, rq 0, rq 0]]) (V ++ [.lst [rq x', rq y', rq z']] ++ [.lst [rq 0]] ++ [.lst [rq 0, rq 0, rq 0]]) := hV.app.app.app
      have lV := hV.len
      have gl : ∀ {o : Ob} {more : List Ob} {n : Nat} {T : Sto}, Dq n (X ++ ([o] ++ more)) T → T[V.length]? = some o := fun {o more n T} hT => by
        rw [lV, hT.get, List.getElem?_append_right (Nat.le_refl _), Nat.sub_self]
        rfl
      have ap : ∀ o : Ob, X ++ [o] ++ [.lst [rq 0]] ++ [.lst [rq 0, rq 0, rq 0]] = X ++ ([o] ++ [.lst [rq 0], .lst [rq 0, rq 0, rq 0]]) := fun o => by simp
      rw [ap] at h4
      cases k' with
      | false =>
        contradiction
        refine w_tupl (ls_of (gl h4)) ?_
        contradiction
        exact kR_dq h4 lS rfl fun V hV => q _ _ _ _ _ _ _ za ⟨zw, fun e => absurd (hk.mpr e) (by decide)⟩ (hV.mono (by omega))
      | true =>
        obtain ⟨rfl, rfl, rfl⟩ := hk.mp rfl
        contradiction
        refine w_take h4 (by omega) (by decide) (by decide) fun j T j0 j1 hT => ?_
        contradiction
        obtain ⟨n, x2, y2, z2, e1, e2, e3, -⟩ := setR (x := 0) (y := 0) (z := 0) (w := -1 / 2) j0 j1
        have eh : D.tup [.int (-1), .int 2] = rq (-1 / 2) := by
          rw [rq, show (-1 / 2 : Rat).num = -1 from by decide +kernel, show (-1 / 2 : Rat).den = 2 from by decide +kernel]
          rfl
        rw [eh]
        refine wPut_l (gl hT) e1 e2 ?_
        have h5 : Dq (m + 21 + 1) (X ++ ([Ob.lst [rq x2, rq y2, rq z2]] ++ [.lst [rq 0], .lst [rq 0, rq 0, rq 0]])) (T.set V.length (.lst [rq x2, rq y2, rq z2])) := by
          obtain ⟨V', rfl, hV'⟩ := Dq.split (rest := X) hT
          have lV' := hV'.len
          rw [List.set_append_right _ _ (by omega), show V.length - V'.length = 0 by omega]
          exact hV'.app (more := [Ob.lst [rq x2, rq y2, rq z2]] ++ [.lst [rq 0], .lst [rq 0, rq 0, rq 0]])
        contradiction
        refine w_tupl (ls_of (gl h5)) ?_
        contradiction
        have zh : Sz 900 (-1 / 2) := ⟨Nat.lt_of_lt_of_le (show _ < 2 ^ 2 by decide +kernel) (Nat.pow_le_pow_right (by decide) (by decide)), Nat.lt_of_lt_of_le (show _ < 2 ^ 2 by decide +kernel) (Nat.pow_le_pow_right (by decide) (by decide))⟩
        refine kR_dq h5 lS rfl fun V hV => q _ _ _ _ _ _ _ za ⟨?_, ?_⟩ (hV.mono (by omega))
        · rcases e3 with ⟨rfl, rfl, rfl, -⟩ | ⟨rfl, rfl, rfl, -⟩ | ⟨rfl, rfl, rfl, -⟩
          · exact ⟨zh, sz_0, sz_0⟩
          · exact ⟨sz_0, zh, sz_0⟩
          · exact ⟨sz_0, sz_0, zh⟩
        · have nz : (-1 / 2 : Rat) ≠ 0 := by decide +kernel
          rcases e3 with ⟨rfl, rfl, rfl, -⟩ | ⟨rfl, rfl, rfl, -⟩ | ⟨rfl, rfl, rfl, -⟩
          · exact fun e => nz e.1
          · exact fun e => nz e.2.1
          · exact fun e => nz e.2.2
end Cl

namespace Cl
open PySem PySem.Spec PyProof.Rows L2 ML RT
/-! ### texts of what is told -/
theorem tup_len (ts : List Str) (h : ts ≠ []) : (tupleText ts).length ≤ piled ts + 2 := by
  have j := join_length_add ts h
  have last : (((if ts.length == 1 then ",)" else ")" : String) : Str)).length ≤ 2 := by
    split
    · decide +kernel
    · decide +kernel
  have first : ((("(" : String) : Str)).length = 1 := rfl
  rw [tupleText, strLen_append, strLen_append]
  omega
theorem w_repr {d : D} {p : PyData} {S : Sto} {Q : D → Sto → Prop} (e : toPS S d = some p) (h : shows d = true ∧ p.showable = true ∧ p.hasDict = false ∧ p.depth ≤ 60 ∧ p.shown.length ≤ sizeLine) (q : Q (.str p.shown) S) : wF bRepr [d] S Q := ⟨_, _, by
  show (toPS S d).bind _ = _
  rw [e, Option.bind_some]
  exact if_pos h, q⟩
theorem int_len {i : Int} (h : i.natAbs.log2 < 1920) : (Str.ofString (toString i)).length ≤ 1921 := by
  rw [PySem.ofString_length]
  exact int_text_length_le (by decide) h
def pairP (p q : Rat) : PyData := .tuple [.tuple [.int p.num, .int p.den], .tuple [.int q.num, .int q.den]]
theorem sz_log {n : Nat} {k : Nat} (h : n < 2 ^ k) (hk : k ≤ 1900) : n.log2 < 1920 := by
  by_cases c : n = 0
  · rw [c]; decide
  · exact (Nat.log2_lt c).mpr (Nat.lt_of_lt_of_le h (Nat.pow_le_pow_right (by decide) (by omega)))
theorem pair_ok {p q : Rat} {k : Nat} (hp : Sz k p) (hq : Sz k q) (hk : k ≤ 1900) : shows (.tup [rq p, rq q]) = true ∧ (pairP p q).showable = true ∧ (pairP p q).hasDict = false ∧ (pairP p q).depth ≤ 60 ∧ (pairP p q).shown.length ≤ sizeLine := by
  have a1 := sz_log hp.1 hk
  have a2 := sz_log hp.2 hk
  have a3 := sz_log hq.1 hk
  have a4 := sz_log hq.2 hk
  refine ⟨rfl, ?_, rfl, by simp [pairP, PyData.depth, PyData.depthAll], ?_⟩
  · simp only [pairP, PyData.showable, PyData.showableAll, Bool.and_eq_true, decide_eq_true_eq, and_true]
    exact ⟨⟨a1, by simpa using a2⟩, a3, by simpa using a4⟩
  · simp only [pairP, PyData.shown, PyData.shownAll]
    have b1 := int_len a1
    have b2 := int_len (i := (p.den : Int)) (by simpa using a2)
    have b3 := int_len a3
    have b4 := int_len (i := (q.den : Int)) (by simpa using a4)
    have c1 := tup_len [Str.ofString (toString p.num), Str.ofString (toString (p.den : Int))] (by simp)
    have c2 := tup_len [Str.ofString (toString q.num), Str.ofString (toString (q.den : Int))] (by simp)
    have c3 := tup_len [tupleText [Str.ofString (toString p.num), Str.ofString (toString (p.den : Int))], tupleText [Str.ofString (toString q.num), Str.ofString (toString (q.den : Int))]] (by simp)
    simp only [piled_cons, piled_nil] at c1 c2 c3
    rw [sizeLine_eq]
    omega
theorem none_ok : shows .non = true ∧ PyData.none.showable = true ∧ PyData.none.hasDict = false ∧ PyData.none.depth ≤ 60 ∧ PyData.none.shown.length ≤ sizeLine := by
  refine ⟨rfl, rfl, rfl, by decide, ?_⟩
  rw [sizeLine_eq]
  simp only [PyData.shown]
  decide +kernel
/-! ### the stretch in a closed box -/
abbrev Ax := Rat × Rat × Rat × Rat
def sideV (a : Ax) : Option (Option (Rat × Rat)) := if a.2.2.2 = 0 then (if a.2.2.1 < a.1 ∨ a.2.1 < a.2.2.1 then none else some none) else some (some (if 0 < a.2.2.2 then ((a.1 - a.2.2.1) / a.2.2.2, (a.2.1 - a.2.2.1) / a.2.2.2) else ((a.2.1 - a.2.2.1) / a.2.2.2, (a.1 - a.2.2.1) / a.2.2.2)))
def minO (e : Option Rat) (r : Rat) : Rat := match e with
  | none => r
  | some e => if r < e then r else e
def stepV (st : Option (Rat × Option Rat)) (a : Ax) : Option (Rat × Option Rat) := st.bind fun s => (sideV a).map fun o => match o with
  | none => s
  | some (f, l) => (if s.1 < f then f else s.1, some (minO s.2 l))
def spanV (as : List Ax) : Option (Rat × Option Rat) := as.foldl stepV (some (0, none))
def eD : Option Rat → D
  | none => .non
  | some r => rq r
def spanD (as : List Ax) : D := match spanV as with
  | some (b, some e) => if e < b then .non else .tup [rq b, rq e]
  | _ => .non
theorem fold_none : ∀ as : List Ax, as.foldl stepV none = none
  | [] => rfl
  | a :: as => fold_none as
theorem span_none {as : List Ax} {i : Nat} (h : spanV (as.take i) = none) : spanD as = .non := by
  have : spanV as = none := by
    unfold spanV at h ⊢
    rw [← List.take_append_drop i as, List.foldl_append, h, fold_none]
  unfold spanD
  rw [this]
theorem span_succ {as : List Ax} {i : Nat} {a : Ax} (h : as[i]? = some a) : spanV (as.take (i + 1)) = stepV (spanV (as.take i)) a := by
  unfold spanV
  rw [List.take_add_one, h, List.foldl_append]
  rfl
structure AxZ (a : Ax) : Prop where
  l : Sz 30 a.1
  h : Sz 30 a.2.1
  p : Sz 900 a.2.2.1
  w : Sz 900 a.2.2.2
  o : a.1 ≤ a.2.1
theorem div_le {x y w : Rat} (h : x ≤ y) (hw : 0 < w) : x / w ≤ y / w := by
  rw [Rat.div_def, Rat.div_def]
  exact Rat.mul_le_mul_of_nonneg_right h (Rat.le_of_lt (Rat.inv_pos.mpr hw))
theorem div_neg_le {x y w : Rat} (h : x ≤ y) (hw : w < 0) : y / w ≤ x / w := by
  have i := Rat.mul_inv_cancel w (by grind)
  have hn : w⁻¹ ≤ 0 := by
    by_cases c : w⁻¹ ≤ 0
    · exact c
    · have := Rat.mul_nonneg (a := -w) (b := w⁻¹) (by grind) (by grind)
      grind
  have := Rat.mul_nonneg (a := y - x) (b := -w⁻¹) (by grind) (by grind)
  rw [Rat.div_def, Rat.div_def]
  grind
end Cl

namespace Cl
open PySem PySem.Spec PyProof.Rows L2 ML RT
theorem wI_zp4 {a : ADen} {env : En} {S : Sto} {QI : List D → List (Nat × Ob) → Sto → Prop} (h : wA a env S fun xs S1 => ∃ d1 d2 d3 d4 s1 s2 s3 s4, xs = [d1, d2, d3, d4] ∧ sqD S1 d1 = some s1 ∧ sqD S1 d2 = some s2 ∧ sqD S1 d3 = some s3 ∧ sqD S1 d4 = some s4 ∧ QI (zp4D s1.1 s2.1 s3.1 s4.1) (s1.2 ++ s2.2 ++ s3.2 ++ s4.2) S1) : wI (iZp4 a) env S QI := by
  obtain ⟨xs, S1, e1, d1, d2, d3, d4, s1, s2, s3, s4, rfl, e2, e3, e4, e5, q⟩ := h
  exact ⟨_, _, by unfold iZp4; rw [e1, Option.bind_some]; simp only; rw [e2, Option.bind_some, e3, Option.bind_some, e4, Option.bind_some, e5, Option.bind_some], q⟩
def sideD : Option (Option (Rat × Rat)) → D
  | none => .non
  | some none => .tup [.non, .non]
  | some (some (f, l)) => .tup [rq f, rq l]
theorem w_sides {a : Ax} (z : AxZ a) {S : Sto} {Q : D → Sto → Prop} (q : Q (sideD (sideV a)) S) : wF d_within_sides [rq a.1, rq a.2.1, rq a.2.2.1, rq a.2.2.2] S Q := by
  obtain ⟨l, h, p, w⟩ := a
  obtain ⟨zl, zh, zp, zw, ho⟩ := z
  simp only at zl zh zp zw ho
  have s1 : Sz 931 (l - p) := (sz_sub zl zp).mono (by decide)
  have s2 : Sz 931 (h - p) := (sz_sub zh zp).mono (by decide)
  trivial
  refine w_psign ?_
  contradiction
  refine wB_dec (fun c => ?_) (fun c => ?_)
  · have w0 : w = 0 := sgn_zero.mp c
    contradiction
    refine w_is_less (zp.mono (by decide)) (zl.mono (by decide)) ?_
    contradiction
    refine wB_dec (fun c1 => ?_) (fun c1 => ?_)
    · contradiction
      refine kR_same ?_
      rw [show sideV (l, h, p, w) = none from by unfold sideV; simp only; rw [if_pos w0, if_pos (.inl c1)]] at q
      exact q
    · contradiction
      refine w_is_less (zh.mono (by decide)) (zp.mono (by decide)) ?_
      contradiction
      refine wB_dec (fun c2 => ?_) (fun c2 => ?_)
      · contradiction
        refine kR_same ?_
        rw [show sideV (l, h, p, w) = none from by unfold sideV; simp only; rw [if_pos w0, if_pos (.inr c2)]] at q
        exact q
      · contradiction
        refine kR_same ?_
        rw [show sideV (l, h, p, w) = some none from by unfold sideV; simp only; rw [if_pos w0, if_neg (by rintro (c | c); exact c1 c; exact c2 c)]] at q
        exact q
  · have w0 : w ≠ 0 := fun e => c (sgn_zero.mpr e)
    contradiction
    refine w_pminus (zl.mono (by decide)) (zp.mono (by decide)) ?_
    contradiction
    refine w_pover (s1.mono (by decide)) (zw.mono (by decide)) w0 ?_
    contradiction
    refine w_pminus (zh.mono (by decide)) (zp.mono (by decide)) ?_
    contradiction
    refine w_pover (s2.mono (by decide)) (zw.mono (by decide)) w0 ?_
    contradiction
    have s3 : Sz 1831 ((l - p) / w) := sz_over s1 zw w0
    have s4 : Sz 1831 ((h - p) / w) := sz_over s2 zw w0
    refine w_is_less (s4.mono (by decide)) (s3.mono (by decide)) ?_
    contradiction
    have lh : l - p ≤ h - p := by grind
    by_cases wp : 0 < w
    · have := div_le lh wp
      rw [decide_eq_false (Rat.not_lt.mpr this)]
      contradiction
      refine kR_same ?_
      rw [show sideV (l, h, p, w) = some (some ((l - p) / w, (h - p) / w)) from by unfold sideV; simp only; rw [if_neg w0, if_pos wp]] at q
      exact q
    · have := div_neg_le lh (show w < 0 by grind)
      rw [show sideV (l, h, p, w) = some (some ((h - p) / w, (l - p) / w)) from by unfold sideV; simp only; rw [if_neg w0, if_neg wp]] at q
      refine wB_dec (fun c1 => ?_) (fun c1 => ?_)
      · contradiction
        exact kR_same q
      · have e : (h - p) / w = (l - p) / w := Rat.le_antisymm this (Rat.not_lt.mp c1)
        rw [e] at q ⊢
        contradiction
        exact kR_same q
structure SpI (as : List Ax) (i : Nat) (b : Rat) (en : Option Rat) : Prop where
  v : spanV (as.take i) = some (b, en)
  zb : Sz 1831 b
  ze : ∀ r, en = some r → Sz 1831 r
  nw : en = none → ∀ a ∈ as.take i, a.2.2.2 = 0
theorem SpI.start (as : List Ax) : SpI as 0 0 none := ⟨rfl, sz_0, (fun r h => nomatch h), (fun _ a h => nomatch h)⟩
theorem SpI.out {as : List Ax} {i : Nat} {b : Rat} {en : Option Rat} {a : Ax} (h : SpI as i b en) (ha : as[i]? = some a) (hs : sideV a = none) : spanD as = .non := by
  refine span_none (i := i + 1) ?_
  rw [span_succ ha, h.v, stepV, Option.bind_some, hs]
  rfl
theorem tk_mem {as : List Ax} {i : Nat} {a x : Ax} (ha : as[i]? = some a) (h : x ∈ as.take (i + 1)) : x ∈ as.take i ∨ x = a := by
  rw [List.take_add_one, ha] at h
  rcases List.mem_append.mp h with h | h
  · exact .inl h
  · exact .inr (by simpa using h)
theorem SpI.stay {as : List Ax} {i : Nat} {b : Rat} {en : Option Rat} {a : Ax} (h : SpI as i b en) (ha : as[i]? = some a) (hs : sideV a = some none) : SpI as (i + 1) b en := by
  refine ⟨?_, h.zb, h.ze, fun e x hx => ?_⟩
  · rw [span_succ ha, h.v, stepV, Option.bind_some, hs]
    rfl
  · rcases tk_mem ha hx with hx | rfl
    · exact h.nw e x hx
    · unfold sideV at hs
      split at hs
      · assumption
      · cases hs
theorem SpI.go {as : List Ax} {i : Nat} {b f l : Rat} {en : Option Rat} {a : Ax} (h : SpI as i b en) (ha : as[i]? = some a) (z : AxZ a) (hs : sideV a = some (some (f, l))) : Sz 1831 f ∧ Sz 1831 l ∧ SpI as (i + 1) (if b < f then f else b) (some (minO en l)) := by
  have zz : Sz 1831 f ∧ Sz 1831 l := by
    obtain ⟨lo, hi, p, w⟩ := a
    obtain ⟨zl, zh, zp, zw, ho⟩ := z
    simp only at zl zh zp zw ho
    have s1 : Sz 931 (lo - p) := (sz_sub zl zp).mono (by decide)
    have s2 : Sz 931 (hi - p) := (sz_sub zh zp).mono (by decide)
    unfold sideV at hs
    simp only at hs
    split at hs
    · split at hs <;> cases hs
    · rename_i w0
      split at hs
      · cases hs
        exact ⟨sz_over s1 zw w0, sz_over s2 zw w0⟩
      · cases hs
        exact ⟨sz_over s2 zw w0, sz_over s1 zw w0⟩
  refine ⟨zz.1, zz.2, ?_, ?_, fun r e => ?_, fun e => nomatch e⟩
  · rw [span_succ ha, h.v, stepV, Option.bind_some, hs]
    rfl
  · split
    · exact zz.1
    · exact h.zb
  · cases e
    unfold minO
    cases en with
    | none => exact zz.2
    | some r =>
      simp only
      split
      · exact zz.2
      · exact h.ze r rfl
def axD (a : Ax) : D := .tup [rq a.1, rq a.2.1, rq a.2.2.1, rq a.2.2.2]
theorem span_end {as : List Ax} {b : Rat} {en : Option Rat} (h : SpI as as.length b en) (hw : ∃ a ∈ as, a.2.2.2 ≠ 0) : ∃ e, en = some e ∧ spanD as = (if e < b then .non else .tup [rq b, rq e]) := by
  have v := h.v
  rw [List.take_length] at v
  cases en with
  | none =>
    obtain ⟨a, ha, hn⟩ := hw
    exact absurd (h.nw rfl a (by rw [List.take_length]; exact ha)) hn
  | some e => exact ⟨e, rfl, by unfold spanD; rw [v]⟩
def axs (a b c x y z p q r u v w : Rat) : List Ax := [(a, x, p, u), (b, y, q, v), (c, z, r, w)]
theorem w_stretch {a b c x y z p q r u v w : Rat} (hz : ∀ k ∈ axs a b c x y z p q r u v w, AxZ k) (hw : ∃ k ∈ axs a b c x y z p q r u v w, k.2.2.2 ≠ 0) {S : Sto} {Q : D → Sto → Prop} (q' : Q (spanD (axs a b c x y z p q r u v w)) S) : wF d_box_stretch [.tup [rp a b c, rp x y z], .tup [rp p q r, rp u v w]] S Q := by
  obtain ⟨as, eas⟩ : ∃ as, as = axs a b c x y z p q r u v w := ⟨_, rfl⟩
  trivial
  refine w_2 (bxD_emp (.bx (a, b, c) (x, y, z)) _) ?_
  contradiction
  refine wI_zp4 ?_
  contradiction
  refine ⟨_, _, _, _, _, _, _, _, rfl, sqD_p, sqD_p, sqD_p, sqD_p, ?_⟩
  rw [show zp4D [rq a, rq b, rq c] [rq x, rq y, rq z] [rq p, rq q, rq r] [rq u, rq v, rq w] = as.map axD from by rw [eas]; rfl]
  rw [← eas] at hz hw q'
  clear eas
  refine w_rinv (fun i e T => T = S ∧ ∃ (b' : Rat) (en : Option Rat) (x4 x5 x6 x7 x8 : Option D), SpI as i b' en ∧ e = [some (.tup [rp a b c, rp x y z]), some (.tup [rp p q r, rp u v w]), some (rq b'), some (eD en), x4, x5, x6, x7, x8]) ⟨rfl, 0, none, _, _, _, _, _, SpI.start as, rfl⟩ (fun _ _ _ _ => srcOk_nil) ?_ ?_
  · rintro i d e T hi ⟨rfl, b', en, x4, x5, x6, x7, x8, hI, rfl⟩
    rw [List.getElem?_map] at hi
    obtain ⟨k, hk, rfl⟩ := Option.map_eq_some_iff.mp hi
    have zk := hz k (List.mem_of_getElem? hk)
    rw [show axD k = .tup [rq k.1, rq k.2.1, rq k.2.2.1, rq k.2.2.2] from rfl]
    contradiction
    refine w_sides zk ?_
    cases hs : sideV k with
    | none =>
      rw [show sideD none = D.non from rfl]
      contradiction
      refine kR_same ?_
      rw [hI.out hk hs] at q'
      exact q'
    | some o =>
      cases o with
      | none =>
        rw [show sideD (some none) = D.tup [.non, .non] from rfl]
        contradiction
        exact ⟨rfl, _, _, _, _, _, _, _, hI.stay hk hs, rfl⟩
      | some fl =>
        obtain ⟨f, l⟩ := fl
        obtain ⟨zf, zl, hI2⟩ := hI.go hk zk hs
        rw [show sideD (some (some (f, l))) = D.tup [rq f, rq l] from rfl]
        contradiction
        refine w_is_less (hI.zb.mono (by decide)) (zf.mono (by decide)) ?_
        contradiction
        have fin : ∀ b2 en2, SpI as (i + 1) b2 en2 → (b2 = b2) := fun _ _ _ => rfl
        refine wB_dec (fun c1 => ?_) (fun c1 => ?_)
        · rw [if_pos c1] at hI2
          contradiction
          cases en with
          | none =>
            refine w_2 (show cIs (eD none) .non _ = some (.bl true, _) from rfl) ?_
            contradiction
            exact ⟨rfl, _, _, _, _, _, _, _, hI2, rfl⟩
          | some e0 =>
            refine w_2 (show cIs (eD (some e0)) .non _ = some (.bl false, _) from rfl) ?_
            contradiction
            refine w_is_less (zl.mono (by decide)) ((hI.ze e0 rfl).mono (by decide)) ?_
            contradiction
            refine wB_dec (fun c2 => ?_) (fun c2 => ?_)
            · contradiction
              exact ⟨rfl, _, _, _, _, _, _, _, by rw [show minO (some e0) l = l from if_pos c2] at hI2; exact hI2, rfl⟩
            · contradiction
              exact ⟨rfl, _, _, _, _, _, _, _, by rw [show minO (some e0) l = e0 from if_neg c2] at hI2; exact hI2, rfl⟩
        · rw [if_neg c1] at hI2
          contradiction
          cases en with
          | none =>
            refine w_2 (show cIs (eD none) .non _ = some (.bl true, _) from rfl) ?_
            contradiction
            exact ⟨rfl, _, _, _, _, _, _, _, hI2, rfl⟩
          | some e0 =>
            refine w_2 (show cIs (eD (some e0)) .non _ = some (.bl false, _) from rfl) ?_
            contradiction
            refine w_is_less (zl.mono (by decide)) ((hI.ze e0 rfl).mono (by decide)) ?_
            contradiction
            refine wB_dec (fun c2 => ?_) (fun c2 => ?_)
            · contradiction
              exact ⟨rfl, _, _, _, _, _, _, _, by rw [show minO (some e0) l = l from if_pos c2] at hI2; exact hI2, rfl⟩
            · contradiction
              exact ⟨rfl, _, _, _, _, _, _, _, by rw [show minO (some e0) l = e0 from if_neg c2] at hI2; exact hI2, rfl⟩
  · rintro e T ⟨rfl, b', en, x4, x5, x6, x7, x8, hI, rfl⟩
    rw [List.length_map] at hI
    obtain ⟨e0, rfl, es⟩ := span_end hI hw
    rw [es] at q'
    contradiction
    refine w_is_less ((hI.ze e0 rfl).mono (by decide)) (hI.zb.mono (by decide)) ?_
    contradiction
    refine wB_dec (fun c => ?_) (fun c => ?_)
    · rw [if_pos c] at q'
      contradiction
      exact kR_same q'
    · rw [if_neg c] at q'
      contradiction
      exact kR_same q'
end Cl

namespace Cl
open PySem PySem.Spec PyProof.Rows L2 ML RT
theorem num_p (q : Rat) : 0 < q.num ↔ 0 < q := by
  constructor
  · intro h
    refine Rat.not_le.mp fun c => ?_
    rcases (show q = 0 ∨ 0 < -q by grind) with e | e
    · rw [e] at h; exact absurd h (by decide)
    · have := Rat.num_nonneg.mpr (show 0 ≤ -q by grind)
      rw [Rat.neg_num] at this
      omega
  · intro h
    have a := Rat.num_nonneg.mpr (show 0 ≤ q by grind)
    rcases (show q.num = 0 ∨ 0 < q.num by omega) with e | e
    · rw [Rat.num_eq_zero.mp e] at h; exact absurd h (by decide)
    · exact e
theorem num_n (q : Rat) : q.num < 0 ↔ q < 0 := by
  have := num_p (-q)
  rw [Rat.neg_num] at this
  constructor
  · intro h
    have := this.mp (by omega)
    grind
  · intro h
    have := this.mpr (by grind)
    omega
theorem w_urev {f : Den} {env : En} {S : Sto} {QA : List D → Sto → Prop} (h : wE f env S fun x S1 => ∃ l xs, x = .loc l ∧ lsAt S1 l = some xs ∧ QA xs.reverse S1) : wA (uRev f) env S QA := by
  obtain ⟨x, S1, e, l, xs, rfl, e2, q⟩ := h
  exact ⟨_, S1, by unfold uRev; rw [e, Option.bind_some]; simp only; rw [e2]; rfl, q⟩
def n3 (a b c : Rat) : Nat → Rat
  | 0 => a
  | 1 => b
  | _ => c
theorem gx {a b c : Rat} {k : Nat} (h : k < 3) (S : Sto) : gIx (rp a b c) (.int (k : Int)) S = some (rq (n3 a b c k), S) := by
  rw [show rp a b c = .tup [rq a, rq b, rq c] from rfl, x_ixt, atI_n]
  rcases (show k = 0 ∨ k = 1 ∨ k = 2 by omega) with rfl | rfl | rfl <;> rfl
theorem axs_at {a b c x y z p q r u v w : Rat} {k : Nat} (h : k < 3) : (axs a b c x y z p q r u v w)[k]? = some (n3 a b c k, n3 x y z k, n3 p q r k, n3 u v w k) := by
  rcases (show k = 0 ∨ k = 1 ∨ k = 2 by omega) with rfl | rfl | rfl <;> rfl
theorem w_span {a b c x y z p q r u v w : Rat} (hz : ∀ k ∈ axs a b c x y z p q r u v w, AxZ k) (hw : ∃ k ∈ axs a b c x y z p q r u v w, k.2.2.2 ≠ 0) {S : Sto} (ws : Wf S) {Q : D → Sto → Prop} (q' : Q (spanD (axs a b c x y z p q r u v w)) S) : wF d__law_span [.tup [rp a b c, rp x y z], .tup [rp p q r, rp u v w]] S Q := by
  obtain ⟨as, eas⟩ : ∃ as, as = axs a b c x y z p q r u v w := ⟨_, rfl⟩
  have ax : ∀ k, k < 3 → as[k]? = some (n3 a b c k, n3 x y z k, n3 p q r k, n3 u v w k) := fun k h => by rw [eas]; exact axs_at h
  have as3 : as.length = 3 := by rw [eas]; rfl
  rw [← eas] at hz hw q'
  clear eas
  trivial
  rw [show ([D.int 0, .int 1, .int 2] : List D) = (List.range 3).map fun k : Nat => D.int (k : Int) from rfl]
  have z4 : ∀ {n : Nat} {s : Rat}, Sz n s → n ≤ 4000 → Sz 4000 s := fun h k => h.mono k
  refine w_rinv (fun i e T => ∃ (X : List Ob) (b' : Rat) (en : Option Rat) (x4 x5 x6 x7 x8 : Option D), T = S ++ X ∧ SpI as i b' en ∧ e = [some (.tup [rp a b c, rp x y z]), some (.tup [rp p q r, rp u v w]), some (rq b'), some (eD en), x4, x5, x6, x7, x8]) ⟨[], 0, none, _, _, _, _, _, by rw [List.append_nil], SpI.start as, rfl⟩ (fun _ _ _ _ => srcOk_nil) ?_ ?_
  · rintro i d e T hi ⟨X, b', en, x4, x5, x6, x7, x8, rfl, hI, rfl⟩
    rw [List.getElem?_map] at hi
    obtain ⟨i', hi2, rfl⟩ := Option.map_eq_some_iff.mp hi
    obtain ⟨hi3, e⟩ := List.getElem?_eq_some_iff.mp hi2
    clear hi hi2
    rw [List.getElem_range] at e
    subst e
    rw [List.length_range] at hi3
    have hk := ax i hi3
    have zk := hz _ (List.mem_of_getElem? hk)
    obtain ⟨zl, zh, zp, zw, ho⟩ := zk
    have zk := hz _ (List.mem_of_getElem? hk)
    simp only at zl zh zp zw ho
    contradiction
    refine w_2 (gx hi3 _) ?_
    contradiction
    refine w_2 (gx hi3 _) ?_
    contradiction
    refine w_less (z4 zl (by decide)) (z4 zp (by decide)) ?_
    contradiction
    refine w_2 (gx hi3 _) ?_
    contradiction
    refine w_2 (gx hi3 _) ?_
    contradiction
    refine w_less (z4 zh (by decide)) (z4 zp (by decide)) ?_
    contradiction
    refine w_2 (gx hi3 _) ?_
    repeat fail
    generalize n3 a b c i = lo at hk zl zk ho
    generalize n3 p q r i = pl at hk zp zk
    generalize n3 x y z i = hg at hk zh zk ho
    generalize n3 u v w i = wy at hk zw zk
    have s1 : Sz 931 (lo - pl) := (sz_sub zl zp).mono (by decide)
    have s2 : Sz 931 (hg - pl) := (sz_sub zh zp).mono (by decide)
    have cmp : ∀ q : Rat, decide (q.num > 0) = decide (0 < q) := fun q => decide_eq_decide.mpr (num_p q)
    have cmn : ∀ q : Rat, decide (q.num < 0) = decide (q < 0) := fun q => decide_eq_decide.mpr (num_n q)
    by_cases w0 : wy = 0
    · have hs0 : (lo > pl ∨ hg < pl) → sideV (lo, hg, pl, wy) = none := fun h => by
        unfold sideV
        simp only
        rw [if_pos w0, if_pos h]
      have hs1 : ¬ (lo > pl ∨ hg < pl) → sideV (lo, hg, pl, wy) = some none := fun h => by
        unfold sideV
        simp only
        rw [if_pos w0, if_neg h]
      have d0 : decide (wy.num = 0) = true := decide_eq_true (by rw [w0]; rfl)
      contradiction
      rw [d0]
      contradiction
      refine wB_dec (fun c1 => ?_) (fun c1 => ?_)
      · have := (num_p _).mp c1
        contradiction
        refine kR_wf ws rfl rfl ?_
        rw [hI.out hk (hs0 (.inl (by grind)))] at q'
        exact q'
      · contradiction
        refine wB_dec (fun c2 => ?_) (fun c2 => ?_)
        · have := (num_n _).mp c2
          contradiction
          refine kR_wf ws rfl rfl ?_
          rw [hI.out hk (hs0 (.inr (by grind)))] at q'
          exact q'
        · contradiction
          have n1 : ¬ 0 < lo - pl := fun h => c1 ((num_p _).mpr h)
          have n2 : ¬ hg - pl < 0 := fun h => c2 ((num_n _).mpr h)
          exact ⟨X, _, _, _, _, _, _, _, rfl, hI.stay hk (hs1 (by rintro (h | h) <;> grind)), rfl⟩
    · have d0 : decide (wy.num = 0) = false := decide_eq_false fun e => w0 (Rat.num_eq_zero.mp e)
      contradiction
      rw [d0]
      contradiction
      refine w_through (z4 s1 (by decide)) (z4 zw (by decide)) w0 ?_
      contradiction
      refine w_through (z4 s2 (by decide)) (z4 zw (by decide)) w0 ?_
      repeat fail
      have back : ∀ {S0 : Sto} (o : Ob), S ++ X ++ [o] = S ++ (X ++ [o]) := fun o => by simp
      refine w_cut (fun e T => ∃ (f l : Rat) (V : List Ob), sideV (lo, hg, pl, wy) = some (some (f, l)) ∧ T = S ++ V ++ [.lst [rq f, rq l]] ∧ e = [some (.tup [rp a b c, rp x y z]), some (.tup [rp p q r, rp u v w]), some (rq b'), some (eD en), some (.int (i : Int)), some (rq (lo - pl)), some (rq (hg - pl)), some (rq wy), some (.loc (S ++ V).length)]) ?_ ?_
      · contradiction
        refine wB_dec (fun c1 => ?_) (fun c1 => ?_)
        · have := (num_n _).mp c1
          contradiction
          refine w_urev ?_
          contradiction
          refine ⟨_, _, rfl, ls_of g0, ?_⟩
          contradiction
          exact ⟨rfl, (hg - pl) / wy, (lo - pl) / wy, X ++ [_], by unfold sideV; simp only; rw [if_neg w0, if_neg (by grind)], by rw [← List.append_assoc]; rfl, by rw [← List.append_assoc]⟩
        · have : 0 < wy := by
            have := fun h => c1 ((num_n wy).mpr h)
            grind
          contradiction
          exact ⟨rfl, (lo - pl) / wy, (hg - pl) / wy, X, by unfold sideV; simp only; rw [if_neg w0, if_pos this], rfl, rfl⟩
      · rintro e T ⟨f, l, V, hs, rfl, rfl⟩
        obtain ⟨zf, zl2, hI2⟩ := hI.go hk zk hs
        repeat fail
        refine w_cut (fun e U => U = S ++ V ++ [.lst [rq f, rq l]] ∧ e = [some (.tup [rp a b c, rp x y z]), some (.tup [rp p q r, rp u v w]), some (rq (if b' < f then f else b')), some (eD en), some (.int (i : Int)), some (rq (lo - pl)), some (rq (hg - pl)), some (rq wy), some (.loc (S ++ V).length)]) ?_ ?_
        · contradiction
          refine w_ixl (ls_of g0) (d := rq f) (by rw [atI_0]) ?_
          contradiction
          refine w_less (z4 zf (by decide)) (z4 hI.zb (by decide)) ?_
          contradiction
          refine wB_dec (fun c1 => ?_) (fun c1 => ?_)
          · have := (num_p _).mp c1
            contradiction
            refine w_ixl (ls_of g0) (d := rq f) (by rw [atI_0]) ?_
            contradiction
            exact ⟨rfl, rfl, by rw [if_pos (by grind)]⟩
          · have : ¬ 0 < f - b' := fun h => c1 ((num_p _).mpr h)
            contradiction
            exact ⟨rfl, rfl, by rw [if_neg (by grind)]⟩
        · rintro e T ⟨rfl, rfl⟩
          cases en with
          | none =>
            rw [show eD none = D.non from rfl]
            contradiction
            refine w_ixl (ls_of g0) (d := rq l) (by rw [atI_1]) ?_
            contradiction
            exact ⟨V ++ [_], _, some l, _, _, _, _, _, by rw [← List.append_assoc], hI2, rfl⟩
          | some e0 =>
            rw [show eD (some e0) = rq e0 from rfl]
            contradiction
            refine w_ixl (ls_of g0) (d := rq l) (by rw [atI_1]) ?_
            contradiction
            refine w_less (z4 zl2 (by decide)) (z4 (hI.ze e0 rfl) (by decide)) ?_
            contradiction
            refine wB_dec (fun c1 => ?_) (fun c1 => ?_)
            · have := (num_n _).mp c1
              contradiction
              refine w_ixl (ls_of g0) (d := rq l) (by rw [atI_1]) ?_
              contradiction
              refine ⟨V ++ [_], _, some l, _, _, _, _, _, by rw [← List.append_assoc], ?_, rfl⟩
              rw [show minO (some e0) l = l from if_pos (by grind)] at hI2
              exact hI2
            · have : ¬ l - e0 < 0 := fun h => c1 ((num_n _).mpr h)
              contradiction
              refine ⟨V ++ [_], _, some e0, _, _, _, _, _, by rw [← List.append_assoc], ?_, rfl⟩
              rw [show minO (some e0) l = e0 from if_neg (by grind)] at hI2
              exact hI2
  · rintro e T ⟨X, b', en, x4, x5, x6, x7, x8, rfl, hI, rfl⟩
    rw [List.length_map, List.length_range, ← as3] at hI
    obtain ⟨e0, rfl, es⟩ := span_end hI hw
    rw [es] at q'
    rw [show eD (some e0) = rq e0 from rfl]
    contradiction
    refine w_less (z4 (hI.ze e0 rfl) (by decide)) (z4 hI.zb (by decide)) ?_
    contradiction
    refine wB_dec (fun c => ?_) (fun c => ?_)
    · have := (num_n _).mp c
      rw [if_pos (by grind)] at q'
      contradiction
      exact kR_wf ws rfl rfl q'
    · have : ¬ e0 - b' < 0 := fun h => c ((num_n _).mpr h)
      rw [if_neg (by grind)] at q'
      contradiction
      exact kR_wf ws rfl rfl q'
end Cl

namespace Cl
open PySem PySem.Spec PyProof.Rows L2 ML RT
def okT (t : Str) : Prop := (PyData.str t).canLay0 = true
theorem okT_app {a b : Str} (ha : okT a) (hb : okT b) : okT (a ++ b) := by
  have ha : a.cps.all (· < 0x110000) = true := ha
  have hb : b.cps.all (· < 0x110000) = true := hb
  show (a ++ b).cps.all (· < 0x110000) = true
  rw [PySem.Str.cps_append, Array.all_append, ha, hb]
  rfl
theorem okT_two {a b : Str} (ha : okT a) (hb : okT b) : okT (tupleText [a, b]) := by
  show okT (("(" : Str) ++ (a ++ ", " ++ b) ++ ((")" : String) : Str))
  exact okT_app (okT_app (ofStr_ok _) (okT_app (okT_app ha (ofStr_ok _)) hb)) (ofStr_ok _)
theorem okT_pair (p q : Rat) : okT (pairP p q).shown := by
  simp only [pairP, PyData.shown, PyData.shownAll]
  exact okT_two (okT_two (ofStr_ok _) (ofStr_ok _)) (okT_two (ofStr_ok _) (ofStr_ok _))
theorem okT_none : okT PyData.none.shown := by
  simp only [PyData.shown]
  exact ofStr_ok _
theorem cNe_same {t : Str} (h : okT t) (S : Sto) : cNe (.str t) (.str t) S = some (.bl false, S) := by
  have e := cEq_t (n := 0) (d := .str t) (S := S) h
  rw [cEq] at e
  rw [cNe]
  obtain ⟨k, e1, e2⟩ := Option.map_eq_some_iff.mp e
  rw [e1]
  cases e2
  rfl
theorem w_ray {m : Nat} {S : Sto} {Q : D → Sto → Prop} (h : Dq m [] S) (hm : m < 2 ^ 18) (q : ∀ r T, Q r T) : wF d__law_ray [.loc 6] S Q := by
  trivial
  refine w_point h (by omega) (by decide) (by decide) fun a b c T z hT => ?_
  contradiction
  refine w_way hT (by omega) fun x y z T2 zw hT2 => ?_
  contradiction
  exact kR_any fun _ => q _ _
theorem w_empty {r : D} {S : Sto} {Q : D → Sto → Prop} (q : Q .non S) : wF d_box_stretch [.tup [], r] S Q := by
  trivial
  refine w_2 (show cEq (.tup []) (.tup []) S = some (.bl true, S) from rfl) ?_
  contradiction
  exact kR_same q
theorem law_true (ns : List Int) (h : ns.length ≤ 63) : ∃ S', d_law [.loc 0] [.rol (ns.map D.int)] = some (.bl true, S') := by
  have : wF d_law [.loc 0] [.rol (ns.map D.int)] (fun d _ => d = .bl true) := by
    trivial
    refine w_deck h fun T hT => ?_
    contradiction
    refine wI_rc ?_
    rw [show rngs 0 (5 : Int).toNat = (List.range 5).map fun k : Nat => D.int (k : Int) from rfl]
    refine w_rinv (fun i e U => Dq (50 * i) [] U ∧ ∃ x2 x3 x4, e = [some (.loc 0), some (.loc 6), x2, x3, x4]) ⟨hT.mono (by omega), _, _, _, rfl⟩ (fun _ _ _ _ => srcOk_nil) ?_ ?_
    · rintro i d e U hi ⟨hU, x2, x3, x4, rfl⟩
      have i5 : i < 5 := by
        have := (List.getElem?_eq_some_iff.mp hi).1
        simpa using this
      clear hi
      contradiction
      refine w_flat_box hU (by omega) fun a b c x y z U2 bz h2 => ?_
      contradiction
      refine w_ray_by bz h2 (by omega) fun p q r u v w U3 zp zw h3 => ?_
      contradiction
      have hz : ∀ k ∈ axs a b c x y z p q r u v w, AxZ k := fun k hk => by
        simp only [axs, List.mem_cons, List.not_mem_nil, or_false] at hk
        rcases hk with rfl | rfl | rfl
        · exact ⟨bz.l.x.mono (by decide), bz.h.x, zp.x, zw.sz.x, bz.x⟩
        · exact ⟨bz.l.y.mono (by decide), bz.h.y, zp.y, zw.sz.y, bz.y⟩
        · exact ⟨bz.l.z.mono (by decide), bz.h.z, zp.z, zw.sz.z, bz.z⟩
      have hw : ∃ k ∈ axs a b c x y z p q r u v w, k.2.2.2 ≠ 0 := by
        by_cases c1 : u = 0
        · by_cases c2 : v = 0
          · exact ⟨(c, z, r, w), by simp [axs], fun c3 => zw.nn ⟨c1, c2, c3⟩⟩
          · exact ⟨(b, y, q, v), by simp [axs], c2⟩
        · exact ⟨(a, x, p, u), by simp [axs], c1⟩
      have wf3 := h3.wf
      refine w_stretch hz hw ?_
      contradiction
      obtain ⟨t, tok, ht⟩ : ∃ t : Str, okT t ∧ ∀ (S : Sto) (Q : D → Sto → Prop), Q (.str t) S → wF bRepr [spanD (axs a b c x y z p q r u v w)] S Q := by
        have zs : ∀ b0 e0, spanV (axs a b c x y z p q r u v w) = some (b0, some e0) → Sz 1831 b0 ∧ Sz 1831 e0 := fun b0 e0 hs => by
          have key : ∀ i, i ≤ (axs a b c x y z p q r u v w).length → ∀ b1 en, spanV ((axs a b c x y z p q r u v w).take i) = some (b1, en) → SpI (axs a b c x y z p q r u v w) i b1 en := by
            intro i
            induction i with
            | zero =>
              intro _ b1 en hv
              cases hv
              exact SpI.start _
            | succ i ih =>
              intro hi b1 en hv
              have hk := List.getElem?_eq_getElem (l := axs a b c x y z p q r u v w) (i := i) (by omega)
              have zk := hz _ (List.mem_of_getElem? hk)
              generalize (axs a b c x y z p q r u v w)[i]'(by omega) = k at hk zk
              rw [span_succ hk] at hv
              cases hp : spanV ((axs a b c x y z p q r u v w).take i) with
              | none => rw [hp] at hv; cases hv
              | some st =>
                obtain ⟨b2, e2⟩ := st
                have hI := ih (by omega) b2 e2 hp
                rw [hp, stepV, Option.bind_some] at hv
                cases hsv : sideV k with
                | none => rw [hsv] at hv; cases hv
                | some o =>
                  rw [hsv] at hv
                  cases o with
                  | none =>
                    cases hv
                    exact hI.stay hk hsv
                  | some fl =>
                    obtain ⟨f, l⟩ := fl
                    cases hv
                    exact (hI.go hk zk hsv).2.2
          have hI := key 3 (Nat.le_refl _) b0 (some e0) hs
          exact ⟨hI.zb, hI.ze e0 rfl⟩
        unfold spanD
        split
        · rename_i b0 e0 hs
          obtain ⟨z1, z2⟩ := zs b0 e0 hs
          split
          · exact ⟨_, okT_none, fun S Q q' => w_repr (p := .none) rfl none_ok q'⟩
          · exact ⟨_, okT_pair b0 e0, fun S Q q' => w_repr (p := pairP b0 e0) rfl (pair_ok z1 z2 (by decide)) q'⟩
        · exact ⟨_, okT_none, fun S Q q' => w_repr (p := .none) rfl none_ok q'⟩
      refine ht _ _ ?_
      contradiction
      refine w_span hz hw wf3 ?_
      contradiction
      refine ht _ _ ?_
      contradiction
      refine w_2 (show cNe (.str t) (.str t) _ = some (.bl false, _) from cNe_same tok _) ?_
      contradiction
      exact ⟨h3.mono (by omega), _, _, _, rfl⟩
    · rintro e U ⟨hU, x2, x3, x4, rfl⟩
      rw [List.length_map, List.length_range] at hU
      contradiction
      refine w_ray hU (by decide) fun r U2 => ?_
      contradiction
      refine w_empty ?_
      contradiction
      exact kR_any fun _ => rfl
  obtain ⟨d, S', e, rfl⟩ := this
  exact ⟨S', e⟩
end Cl

open PySem PySem.W PySem.Calls PyProof.Rows
theorem PySem.Challenge.cw_scenetongue_k57_boxes_along_rays_holds : PySem.Challenge.rw_scenetongue_k57_boxes_along_rays.Holds := by
  w_on; o_law
  refine HandSHeadRun.head_any (r := OpenLaw.row PySem.Challenge.rw_scenetongue_k57_boxes_along_rays) (q := view (OpenLaw.row PySem.Challenge.rw_scenetongue_k57_boxes_along_rays).prog [29]) (H := Cl.hk) (ob := Cl.ob) (M := 4000) (loose := Cl.names) (d := HandSHeadRun.topDef (OpenLaw.row PySem.Challenge.rw_scenetongue_k57_boxes_along_rays).prog 29) (kwd := []) Cl.ob_eq
    (by kernel_rfl) (fun s => by kernel_rfl) Cl.run (by kernel_rfl) (by kernel_rfl) (by kernel_rfl) (by rfl) (by first | assumption | decide +kernel) (by decide +kernel) ⟨rfl, rfl, rfl, rfl, rfl, by decide +kernel⟩ ?hw ?hc
  case hw => w_witness2
  case hc =>
    refine ML.walk_at (l := PySem.Challenge.rw_scenetongue_k57_boxes_along_rays) (n := 63) (x := "_law_script") rfl (by decide) (by kernel_rfl) ?F
    intro w mg fa h Y G hmg0
    obtain ⟨K, KX, c⟩ := Y
    have hmg : mg ("law" : PySem.Str) = some (.ref fa) := by
      have e : (HandSHeadRun.topDef (OpenLaw.row PySem.Challenge.rw_scenetongue_k57_boxes_along_rays).prog 29).name = ("law" : PySem.Str) := by kernel_rfl
      rw [← e]
      exact hmg0
    obtain ⟨fd, F⟩ := c.d.def_ 25 (d := ⟨("law", none), "law", "law", L2.defArgs Cl.s_law, L2.defBody Cl.s_law, L2.defScope Cl.s_law, [], []⟩) rfl
    have e := hmg.symm.trans (He.glo_ok KX G (c.d.fact 25 (f := .glo "law") rfl))
    cases e
    have b := L2.FunD.bindsA (ps := ["_law_script"]) F fun _ _ _ _ _ _ us hl => match us, hl with | [_], _ => rfl
    exact ⟨K, fd, ML.spD ⟨K, mg⟩ Cl.d_law, KX, fun s v => b s [v] rfl, fun H a ns hl hO hS => ML.law_sp hO hS (Cl.law_true ns hl), fun base _ _ => Cl.fnl_law KX G c F⟩
#print axioms PySem.Challenge.cw_scenetongue_k57_boxes_along_rays_holds

end
