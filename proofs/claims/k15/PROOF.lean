import PyProof.Rows.All
import Wide.All
import OpenK.AllK
import Wide.FinOn
import HandS.ForMost
import HandS.Walk
import HandS.IsInst
import HandS.Wide
import HandS.Zip
import HandS.Defaults
import HandS.Flow
import HandS.Style
import HandS.TupAny
import HandS.TupMul
import HandS.TupLe
import HandS.Small
import HandS.CallLocal
import HandS.Conv
import HandS.More
import KE.KStateDown
import HandS.Head0
import HandS.Head1
import HandS.Head2
import HandS.HeadEnd
import HandS.HeadHook1
import HandS.HeadHook2
import HandS.RaiseMore
import HandS.HeadHook3
import HandS.Iter
import HandS.WideBits
import HandS.NoneIn
import KE.KDictZip
import KE.KDictList
import HandS.OwnIter
import HandS.Rev
import HandS.RevRange
import KE.GoesMore
import KE.GoesEnum
import HandS.Text
import HandS.Deep
import HandS.Dict
import PyProof.CollectIter
import PyProof.StrOps2
import HandS.Replace
import HandS.ReplaceLit
import HandS.ReplaceList
import PySem.Challenge.RW_scenetongue_k15_too_long
set_option Elab.async false
set_option linter.all false
set_option maxRecDepth 100000
set_option maxHeartbeats 4000000
namespace ML
open PySem PySem.Spec PyProof.Rows L2

/-- plain data, and places of the store -/
inductive D where
  | non | bl (b : Bool) | int (i : Int) | str (x : Str) | tup (xs : List D) | loc (l : Nat) | ty (n : String) | fn (x : Str)
  deriving Inhabited
/-- an object of the store: a list; a list that is only read; a dict by ints and texts; an instance of a class by its name, with its attributes -/
inductive Ob where
  | lst (xs : List D)
  | rol (xs : List D)
  | dk (kvs : List (Key × D))
  | ins (c : Str) (fs : List (Str × D))
abbrev Sto : Type := List Ob
/-- where a place stands, and whether it is written to -/
abbrev Lo : Type := Addr × Bool

/-- the written part, and what the module's names hold -/
structure Gx where
  K : PySem.W.Frag
  mg : Str → Option Value
abbrev gx (X : Cx) : Gx := ⟨X.K, X.mg⟩

mutual
def Rp (G : Gx) (ρ : List Lo) (H : Hp) : D → V → Prop
  | .non, v => v = .non
  | .bl b, v => v = .bl b
  | .int i, v => v = .int i
  | .str x, v => v = .str x
  | .ty n, v => v = .ty n
  | .fn x, v => ∃ u, G.mg x = some u ∧ RelV v u
  | .loc l, v => ∃ a, ρ[l]? = some a ∧ v = .ref a.1
  | .tup ds, v => ∃ a vs, v = .ref a ∧ SqT G.K H a vs ∧ RpL G ρ H ds vs
def RpL (G : Gx) (ρ : List Lo) (H : Hp) : List D → List V → Prop
  | [], vs => vs = []
  | d :: ds, vs => ∃ v r, vs = v :: r ∧ Rp G ρ H d v ∧ RpL G ρ H ds r
end

def RpK (G : Gx) (ρ : List Lo) (H : Hp) : List (Key × D) → List (Key × V) → Prop
  | [], vs => vs = []
  | d :: ds, vs => ∃ v r, vs = (d.1, v) :: r ∧ Rp G ρ H d.2 v ∧ RpK G ρ H ds r

def RpF (G : Gx) (ρ : List Lo) (H : Hp) : List (Str × D) → List (Str × V) → Prop
  | [], vs => vs = []
  | d :: ds, vs => ∃ v r, vs = (d.1, v) :: r ∧ Rp G ρ H d.2 v ∧ RpF G ρ H ds r

/-- a list that is only read: locked, or of the written part -/
def SqR (K : PySem.W.Frag) (H : Hp) (a : Addr) (xs : List V) : Prop :=
  (∃ o, H a = some (.frz o (.lst xs))) ∨
    ∃ (o : Obj) (its : Array Value) (n : Nat), K.lookup a = some o ∧ o.cls = .type "list" ∧ o.dict = none ∧ o.data = .seq its n ∧ its.size ≤ sizeLine ∧ Vals xs its.toList
theorem SqR.sq {K : PySem.W.Frag} {H : Hp} {a : Addr} {xs : List V} (h : SqR K H a xs) : SqL K H a xs := h.elim (fun h => .inl (.inr h)) .inr
theorem SqR.of {K : PySem.W.Frag} {H : Hp} {a : Addr} {xs : List V} (hO : Only H) (h : SqL K H a xs) : SqR K H a xs := by
  rcases h with (h | h) | h
  · rcases hO a with z | ⟨o, ys, z⟩
    · rw [z] at h; cases h
    · rw [z] at h; cases h
  · exact .inl h
  · exact .inr h
def ObR (G : Gx) (ρ : List Lo) (H : Hp) (a : Addr) : Ob → Prop
  | .lst ds => ∃ vs, H a = some (.lst vs) ∧ RpL G ρ H ds vs
  | .rol ds => ∃ vs, SqR G.K H a vs ∧ RpL G ρ H ds vs
  | .dk kvs => ∃ ws, H a = some (.dK ws) ∧ RpK G ρ H kvs ws
  | .ins c fs => ∃ C dx ws, G.mg c = some (.ref C) ∧ H a = some (.ins C dx ws) ∧ RpF G ρ H fs ws
def Ob.mu : Ob → Bool
  | .rol _ => false
  | _ => true

structure SR (G : Gx) (ρ : List Lo) (H : Hp) (S : List Ob) : Prop where
  len : ρ.length = S.length
  obj : ∀ (l : Nat) (o : Ob) (a : Lo), S[l]? = some o → ρ[l]? = some a → ObR G ρ H a.1 o
  mu : ∀ (l : Nat) (o : Ob) (a : Lo), S[l]? = some o → ρ[l]? = some a → o.mu = a.2
  inj : ∀ (l l' : Nat) (a : Addr), ρ[l]? = some (a, true) → ρ[l']? = some (a, true) → l = l'

/-- what data lean on -/
structure Mon (ρ : List Lo) (H : Hp) (ρ' : List Lo) (H' : Hp) : Prop where
  pre : ρ <+: ρ'
  tup : ∀ a xs, H a = some (.tup xs) → H' a = some (.tup xs)
  frz : ∀ a o u, H a = some (.frz o u) → H' a = some (.frz o u)
/-- what a step leaves -/
structure Step (ρ : List Lo) (H : Hp) (ρ' : List Lo) (H' : Hp) : Prop extends Mon ρ H ρ' H' where
  new : ∀ a, (a, true) ∈ ρ' → (a, true) ∈ ρ ∨ H a = none
  oth : ∀ a o, H a = some o → (a, true) ∉ ρ → H' a = some o
theorem Step.refl (ρ : List Lo) (H : Hp) : Step ρ H ρ H := ⟨⟨List.prefix_refl _, fun _ _ h => h, fun _ _ _ h => h⟩, fun _ h => .inl h, fun _ _ h _ => h⟩
theorem Step.trans {ρ ρ1 ρ2 : List Lo} {H H1 H2 : Hp} (a : Step ρ H ρ1 H1) (b : Step ρ1 H1 ρ2 H2) : Step ρ H ρ2 H2 := by
  refine ⟨⟨a.pre.trans b.pre, fun x xs h => b.tup _ _ (a.tup _ _ h), fun x o u h => b.frz _ _ _ (a.frz _ _ _ h)⟩, fun x hx => ?_, fun x o h hn => ?_⟩
  · rcases b.new x hx with h | h
    · exact a.new x h
    · by_cases hm : (x, true) ∈ ρ
      · exact .inl hm
      · refine .inr ?_
        cases q : H x with
        | none => rfl
        | some o => rw [a.oth x o q hm] at h; cases h
  · refine b.oth x o (a.oth x o h hn) fun hm => ?_
    rcases a.new x hm with z | z
    · exact hn z
    · rw [z] at h; cases h
theorem Mon.seqT {K : PySem.W.Frag} {ρ ρ' : List Lo} {H H' : Hp} {a : Addr} {xs : List V} (s : Mon ρ H ρ' H') (h : SqT K H a xs) : SqT K H' a xs := by
  rcases h with (h | ⟨o, h⟩) | h
  · exact .inl (.inl (s.tup _ _ h))
  · exact .inl (.inr ⟨o, s.frz _ _ _ h⟩)
  · exact .inr h
theorem pre_get {α : Type} {l l' : List α} (h : l <+: l') {i : Nat} {x : α} (e : l[i]? = some x) : l'[i]? = some x := by
  obtain ⟨r, rfl⟩ := h
  rw [List.getElem?_append_left]
  · exact e
  · exact (List.getElem?_eq_some_iff.mp e).1

mutual
theorem Rp.mon {G : Gx} {ρ ρ' : List Lo} {H H' : Hp} (s : Mon ρ H ρ' H') : ∀ {d : D} {v : V}, Rp G ρ H d v → Rp G ρ' H' d v
  | .non, _, h => by simpa [Rp] using h
  | .bl _, _, h => by simpa [Rp] using h
  | .int _, _, h => by simpa [Rp] using h
  | .str _, _, h => by simpa [Rp] using h
  | .ty _, _, h => by simpa [Rp] using h
  | .fn _, _, h => by simpa [Rp] using h
  | .loc l, _, h => by
    simp only [Rp] at h ⊢
    obtain ⟨a, e, r⟩ := h
    exact ⟨a, pre_get s.pre e, r⟩
  | .tup ds, _, h => by
    simp only [Rp] at h ⊢
    obtain ⟨a, vs, e, q, r⟩ := h
    exact ⟨a, vs, e, s.seqT q, RpL.mon s r⟩
theorem RpL.mon {G : Gx} {ρ ρ' : List Lo} {H H' : Hp} (s : Mon ρ H ρ' H') : ∀ {ds : List D} {vs : List V}, RpL G ρ H ds vs → RpL G ρ' H' ds vs
  | [], _, h => by simpa [RpL] using h
  | d :: ds, _, h => by
    simp only [RpL] at h ⊢
    obtain ⟨v, r, e, q, t⟩ := h
    exact ⟨v, r, e, Rp.mon s q, RpL.mon s t⟩
end
theorem RpK.mon {G : Gx} {ρ ρ' : List Lo} {H H' : Hp} (s : Mon ρ H ρ' H') : ∀ {ds : List (Key × D)} {vs : List (Key × V)}, RpK G ρ H ds vs → RpK G ρ' H' ds vs
  | [], _, h => by simpa [RpK] using h
  | d :: ds, _, h => by
    simp only [RpK] at h ⊢
    obtain ⟨v, r, e, q, t⟩ := h
    exact ⟨v, r, e, Rp.mon s q, RpK.mon s t⟩
theorem RpF.mon {G : Gx} {ρ ρ' : List Lo} {H H' : Hp} (s : Mon ρ H ρ' H') : ∀ {ds : List (Str × D)} {vs : List (Str × V)}, RpF G ρ H ds vs → RpF G ρ' H' ds vs
  | [], _, h => by simpa [RpF] using h
  | d :: ds, _, h => by
    simp only [RpF] at h ⊢
    obtain ⟨v, r, e, q, t⟩ := h
    exact ⟨v, r, e, Rp.mon s q, RpF.mon s t⟩
theorem Rp.step {G : Gx} {ρ ρ' : List Lo} {H H' : Hp} {d : D} {v : V} (h : Rp G ρ H d v) (s : Step ρ H ρ' H') : Rp G ρ' H' d v := Rp.mon s.toMon h
theorem RpL.step {G : Gx} {ρ ρ' : List Lo} {H H' : Hp} {d : List D} {v : List V} (h : RpL G ρ H d v) (s : Step ρ H ρ' H') : RpL G ρ' H' d v := RpL.mon s.toMon h
theorem RpL.length {G : Gx} {ρ : List Lo} {H : Hp} : ∀ {ds : List D} {vs : List V}, RpL G ρ H ds vs → vs.length = ds.length
  | [], _, h => by simp only [RpL] at h; rw [h]; rfl
  | d :: ds, _, h => by
    simp only [RpL] at h
    obtain ⟨v, r, e, q, t⟩ := h
    rw [e, List.length_cons, RpL.length t, List.length_cons]
theorem RpL.get {G : Gx} {ρ : List Lo} {H : Hp} : ∀ {ds : List D} {vs : List V} {i : Nat} {d : D}, RpL G ρ H ds vs → ds[i]? = some d → ∃ v, vs[i]? = some v ∧ Rp G ρ H d v
  | [], _, _, _, _, e => by simp at e
  | d :: ds, _, 0, _, h, e => by
    simp only [RpL] at h
    obtain ⟨v, r, rfl, q, t⟩ := h
    simp at e; subst e
    exact ⟨v, rfl, q⟩
  | d :: ds, _, i + 1, _, h, e => by
    simp only [RpL] at h
    obtain ⟨v, r, rfl, q, t⟩ := h
    obtain ⟨w, h1, h2⟩ := RpL.get t (i := i) (by simpa using e)
    exact ⟨w, by simpa using h1, h2⟩
theorem RpL.append {G : Gx} {ρ : List Lo} {H : Hp} : ∀ {ds es : List D} {vs us : List V}, RpL G ρ H ds vs → RpL G ρ H es us → RpL G ρ H (ds ++ es) (vs ++ us)
  | [], _, _, _, h, h' => by simp only [RpL] at h; subst h; exact h'
  | d :: ds, _, _, _, h, h' => by
    simp only [RpL] at h
    obtain ⟨v, r, rfl, q, t⟩ := h
    show RpL G ρ H (d :: (ds ++ _)) _
    simp only [RpL]
    exact ⟨v, r ++ _, rfl, q, RpL.append t h'⟩
theorem RpL.one {G : Gx} {ρ : List Lo} {H : Hp} {d : D} {v : V} (h : Rp G ρ H d v) : RpL G ρ H [d] [v] := by
  simp only [RpL]; exact ⟨v, [], rfl, h, rfl⟩
theorem RpL.nil {G : Gx} {ρ : List Lo} {H : Hp} : RpL G ρ H [] [] := by simp only [RpL]
theorem RpL.cons {G : Gx} {ρ : List Lo} {H : Hp} {d : D} {v : V} {ds : List D} {vs : List V} (h : Rp G ρ H d v) (t : RpL G ρ H ds vs) : RpL G ρ H (d :: ds) (v :: vs) := by
  simp only [RpL]; exact ⟨v, vs, rfl, h, t⟩
theorem RpL.set {G : Gx} {ρ : List Lo} {H : Hp} {d : D} {v : V} (hv : Rp G ρ H d v) : ∀ {ds : List D} {vs : List V} (i : Nat), RpL G ρ H ds vs → RpL G ρ H (ds.set i d) (vs.set i v)
  | [], _, _, h => by simp only [RpL] at h; subst h; exact RpL.nil
  | e :: ds, _, 0, h => by
    simp only [RpL] at h
    obtain ⟨w, r, rfl, q, t⟩ := h
    exact RpL.cons hv t
  | e :: ds, _, i + 1, h => by
    simp only [RpL] at h
    obtain ⟨w, r, rfl, q, t⟩ := h
    exact RpL.cons q (RpL.set hv i t)
theorem RpL.take {G : Gx} {ρ : List Lo} {H : Hp} : ∀ {ds : List D} {vs : List V} (n : Nat), RpL G ρ H ds vs → RpL G ρ H (ds.take n) (vs.take n)
  | _, _, 0, h => by simp only [List.take_zero]; exact RpL.nil
  | [], _, _ + 1, h => by simp only [RpL] at h; subst h; exact RpL.nil
  | e :: ds, _, n + 1, h => by
    simp only [RpL] at h
    obtain ⟨w, r, rfl, q, t⟩ := h
    exact RpL.cons q (RpL.take n t)
theorem RpL.drop {G : Gx} {ρ : List Lo} {H : Hp} : ∀ {ds : List D} {vs : List V} (n : Nat), RpL G ρ H ds vs → RpL G ρ H (ds.drop n) (vs.drop n)
  | _, _, 0, h => h
  | [], _, _ + 1, h => by simp only [RpL] at h; subst h; exact RpL.nil
  | e :: ds, _, n + 1, h => by
    simp only [RpL] at h
    obtain ⟨w, r, rfl, q, t⟩ := h
    exact RpL.drop n t

section
variable {G : Gx} {ρ : List Lo} {H : Hp} {S : Sto}
theorem Mon.upd {p : Addr} {o : HO} (h : H p = none) : Mon ρ H ρ (upd H p o) :=
  ⟨List.prefix_refl _, fun a xs e => by rw [upd_ne (ne_of_none e h)]; exact e, fun a x u e => by rw [upd_ne (ne_of_none e h)]; exact e⟩
theorem Mon.ext {r : List Lo} : Mon ρ H (ρ ++ r) H := ⟨List.prefix_append _ _, fun _ _ e => e, fun _ _ _ e => e⟩
theorem Step.untracked {p : Addr} {o : HO} (h : H p = none) : Step ρ H ρ (upd H p o) :=
  ⟨Mon.upd h, fun _ h => .inl h, fun a x e _ => by rw [upd_ne (ne_of_none e h)]; exact e⟩
theorem Step.newloc {p : Addr} {o : HO} (h : H p = none) : Step ρ H (ρ ++ [(p, true)]) (upd H p o) :=
  ⟨⟨List.prefix_append _ _, (Mon.upd (ρ := ρ) h).tup, (Mon.upd (ρ := ρ) h).frz⟩, fun a ha => by
    rcases List.mem_append.mp ha with z | z
    · exact .inl z
    · have e : a = p := by simpa using z
      exact .inr (e ▸ h), fun a x e _ => by rw [upd_ne (ne_of_none e h)]; exact e⟩
/-- a place written: it is tracked as no tuple, nothing locked -/
theorem Step.write {a : Addr} {o u : HO} (ha : (a, true) ∈ ρ) (hm : H a = some u) (h1 : ∀ xs, u ≠ .tup xs) (h2 : ∀ x y, u ≠ .frz x y) : Step ρ H ρ (upd H a o) := by
  refine ⟨⟨List.prefix_refl _, fun b xs e => ?_, fun b x y e => ?_⟩, fun _ h => .inl h, fun b x e hb => ?_⟩
  · have : b ≠ a := by rintro rfl; rw [hm] at e; exact h1 _ (Option.some.inj e)
    rw [upd_ne this]; exact e
  · have : b ≠ a := by rintro rfl; rw [hm] at e; exact h2 _ _ (Option.some.inj e)
    rw [upd_ne this]; exact e
  · have : b ≠ a := by rintro rfl; exact hb ha
    rw [upd_ne this]; exact e
/-- an object moved over a step that leaves its own place -/
theorem ObR.over {ρ' : List Lo} {H' : Hp} {a : Addr} (s : Mon ρ H ρ' H') : ∀ {o : Ob}, (o.mu = true → ∀ x, H a = some x → H' a = some x) → ObR G ρ H a o → ObR G ρ' H' a o
  | .lst ds, hm, ⟨vs, e, r⟩ => ⟨vs, hm rfl _ e, RpL.mon s r⟩
  | .rol ds, _, ⟨vs, e, r⟩ => ⟨vs, by
      rcases e with ⟨w, e⟩ | e
      · exact .inl ⟨w, s.frz _ _ _ e⟩
      · exact .inr e, RpL.mon s r⟩
  | .dk kvs, hm, ⟨ws, e, r⟩ => ⟨ws, hm rfl _ e, RpK.mon s r⟩
  | .ins c fs, hm, ⟨C, dx, ws, g, e, r⟩ => ⟨C, dx, ws, g, hm rfl _ e, RpF.mon s r⟩
theorem SR.get (h : SR G ρ H S) {l : Nat} {o : Ob} (e : S[l]? = some o) : ∃ a, ρ[l]? = some a ∧ ObR G ρ H a.1 o ∧ o.mu = a.2 := by
  have hl : l < ρ.length := by rw [h.len]; exact (List.getElem?_eq_some_iff.mp e).1
  exact ⟨ρ[l], List.getElem?_eq_getElem hl, h.obj l o _ e (List.getElem?_eq_getElem hl), h.mu l o _ e (List.getElem?_eq_getElem hl)⟩
/-- an untracked new object -/
theorem SR.untracked (h : SR G ρ H S) {p : Addr} {o : HO} (hp : H p = none) : SR G ρ (upd H p o) S :=
  ⟨h.len, fun l ob a e e' => ObR.over (Mon.upd hp) (fun _ x hx => by rw [upd_ne (ne_of_none hx hp)]; exact hx) (h.obj l ob a e e'), h.mu, h.inj⟩
theorem ob_none {a : Addr} {o : Ob} (h : ObR G ρ H a o) (m : o.mu = true) : ∃ u, H a = some u := by
  cases o with
  | lst ds => obtain ⟨vs, e, _⟩ := h; exact ⟨_, e⟩
  | rol ds => cases m
  | dk kvs => obtain ⟨vs, e, _⟩ := h; exact ⟨_, e⟩
  | ins c fs => obtain ⟨C, dx, vs, _, e, _⟩ := h; exact ⟨_, e⟩
/-- a written place is tracked -/
theorem SR.there (h : SR G ρ H S) {a : Addr} (m : (a, true) ∈ ρ) : ∃ u, H a = some u := by
  obtain ⟨l, hl, e⟩ := List.getElem_of_mem m
  have e1 : ρ[l]? = some (a, true) := by rw [List.getElem?_eq_getElem hl, e]
  have hS : l < S.length := by rw [← h.len]; exact hl
  have e2 := List.getElem?_eq_getElem hS
  exact ob_none (h.obj l _ _ e2 e1) (h.mu l _ _ e2 e1)
theorem SR.fresh (h : SR G ρ H S) {p : Addr} (hp : H p = none) : (p, true) ∉ ρ := fun m => by
  obtain ⟨u, e⟩ := h.there m
  rw [hp] at e; cases e
/-- a place of its own for what is tracked already -/
theorem SR.own (h : SR G ρ H S) {p : Addr} {ob : Ob} (hp : (p, true) ∉ ρ) (m : ob.mu = true) (hob : ObR G (ρ ++ [(p, true)]) H p ob) : SR G (ρ ++ [(p, true)]) H (S ++ [ob]) := by
  have back : ∀ {k : Nat} {x : Lo}, (ρ ++ [(p, true)])[k]? = some x → (k < S.length ∧ ρ[k]? = some x) ∨ (k = S.length ∧ x = (p, true)) := by
    intro k x r
    by_cases hl : k < S.length
    · rw [List.getElem?_append_left (by rw [h.len]; exact hl)] at r
      exact .inl ⟨hl, r⟩
    · have hl2 : k = S.length := by
        have := (List.getElem?_eq_some_iff.mp r).1
        simp [h.len] at this; omega
      refine .inr ⟨hl2, ?_⟩
      subst hl2
      rw [← h.len] at r
      simp at r
      exact r.symm
  have fwd : ∀ {k : Nat} {oo : Ob}, (S ++ [ob])[k]? = some oo → (k < S.length ∧ S[k]? = some oo) ∨ (k = S.length ∧ oo = ob) := by
    intro k oo e
    by_cases hl : k < S.length
    · rw [List.getElem?_append_left hl] at e; exact .inl ⟨hl, e⟩
    · have hl2 : k = S.length := by
        have := (List.getElem?_eq_some_iff.mp e).1
        simp at this; omega
      subst hl2
      simp at e
      exact .inr ⟨rfl, e.symm⟩
  refine ⟨by simp [h.len], fun l oo a e e' => ?_, fun l oo a e e' => ?_, fun l l' a r1 r2 => ?_⟩
  · rcases fwd e with ⟨a1, a2⟩ | ⟨a1, a2⟩ <;> rcases back e' with ⟨b1, b2⟩ | ⟨b1, b2⟩
    · exact ObR.over Mon.ext (fun _ x hx => hx) (h.obj l oo a a2 b2)
    · omega
    · omega
    · subst a2 b2; exact hob
  · rcases fwd e with ⟨a1, a2⟩ | ⟨a1, a2⟩ <;> rcases back e' with ⟨b1, b2⟩ | ⟨b1, b2⟩
    · exact h.mu l oo a a2 b2
    · omega
    · omega
    · subst a2 b2; exact m
  · rcases back r1 with ⟨a1, a2⟩ | ⟨a1, a2⟩ <;> rcases back r2 with ⟨b1, b2⟩ | ⟨b1, b2⟩
    · exact h.inj l l' a a2 b2
    · cases b2; exact absurd (List.mem_of_getElem? a2) hp
    · cases a2; exact absurd (List.mem_of_getElem? b2) hp
    · omega
theorem SR.new (h : SR G ρ H S) {p : Addr} {o : HO} {ob : Ob} (hp : H p = none) (m : ob.mu = true) (hob : ObR G (ρ ++ [(p, true)]) (upd H p o) p ob) : SR G (ρ ++ [(p, true)]) (upd H p o) (S ++ [ob]) :=
  SR.own (h.untracked hp) (h.fresh hp) m hob
/-- an object is written -/
theorem SR.write (h : SR G ρ H S) {l : Nat} {a : Addr} {o u : HO} {ob' : Ob} (r : ρ[l]? = some (a, true)) (hu : H a = some u) (h1 : ∀ xs, u ≠ .tup xs) (h2 : ∀ x y, u ≠ .frz x y)
    (m' : ob'.mu = true) (hob : ObR G ρ (upd H a o) a ob') : SR G ρ (upd H a o) (S.set l ob') := by
  have st : Step ρ H ρ (upd H a o) := Step.write (List.mem_of_getElem? r) hu h1 h2
  have hl : l < S.length := by rw [← h.len]; exact (List.getElem?_eq_some_iff.mp r).1
  refine ⟨by simp [h.len], fun k oo b e1 r1 => ?_, fun k oo b e1 r1 => ?_, h.inj⟩
  · by_cases hk : k = l
    · subst hk
      rw [List.getElem?_set_self hl] at e1
      cases e1
      rw [r] at r1; cases r1
      exact hob
    · rw [List.getElem?_set_ne (Ne.symm hk)] at e1
      refine ObR.over st.toMon (fun hm x hx => ?_) (h.obj k oo b e1 r1)
      have : b.1 ≠ a := by
        intro e
        have hb := h.mu k oo b e1 r1
        rw [hm] at hb
        exact hk (h.inj k l a (by rw [r1]; exact congrArg some (Prod.ext e hb.symm)) r)
      rw [upd_ne this]; exact hx
  · by_cases hk : k = l
    · subst hk
      rw [List.getElem?_set_self hl] at e1
      cases e1
      rw [r] at r1; cases r1
      exact m'
    · rw [List.getElem?_set_ne (Ne.symm hk)] at e1
      exact h.mu k oo b e1 r1
end
end ML

namespace ML
open PySem PySem.Spec PyProof.Rows L2

abbrev En := List (Option D)
abbrev Den := En → Sto → Option (D × Sto)
abbrev TDen := En → Sto → Option (Bool × Sto)
abbrev ADen := En → Sto → Option (List D × Sto)
abbrev Op1 := D → Sto → Option (D × Sto)
abbrev Op2 := D → D → Sto → Option (D × Sto)
abbrev Fn := List D → Sto → Option (D × Sto)

structure EnR (G : Gx) (ρ : List Lo) (H : Hp) (env : En) (σ : L2.St) : Prop where
  len : env.length = σ.length
  at_ : ∀ (i : Nat) (d : D), env[i]? = some (some d) → ∃ v, σ[i]? = some (some v) ∧ Rp G ρ H d v
theorem EnR.step {G : Gx} {ρ ρ' : List Lo} {H H' : Hp} {env : En} {σ : L2.St} (h : EnR G ρ H env σ) (s : Step ρ H ρ' H') : EnR G ρ' H' env σ :=
  ⟨h.len, fun i d e => let ⟨v, a, b⟩ := h.at_ i d e; ⟨v, a, b.step s⟩⟩
theorem EnR.set {G : Gx} {ρ : List Lo} {H : Hp} {env : En} {σ : L2.St} (h : EnR G ρ H env σ) {d : D} {v : V} (r : Rp G ρ H d v) (i : Nat) : EnR G ρ H (env.set i (some d)) (σ.set i (some v)) := by
  refine ⟨by simpa using h.len, fun j e q => ?_⟩
  by_cases hj : i = j
  · subst hj
    have hi : i < env.length := by
      have := (List.getElem?_eq_some_iff.mp q).1
      simpa using this
    rw [List.getElem?_set_self hi] at q
    cases q
    exact ⟨v, by rw [List.getElem?_set_self (by rw [← h.len]; exact hi)], r⟩
  · rw [List.getElem?_set_ne hj] at q ⊢
    exact h.at_ j e q
theorem EnR.wipe {G : Gx} {ρ : List Lo} {H : Hp} {env : En} {σ : L2.St} (h : EnR G ρ H env σ) {env' : En} {σ' : L2.St} (hl : env'.length = σ'.length) (he : ∀ (i : Nat) d, env'[i]? = some (some d) → env[i]? = some (some d) ∧ σ'[i]? = σ[i]?) : EnR G ρ H env' σ' :=
  ⟨hl, fun i d e => let ⟨a, b⟩ := he i d e; let ⟨v, x, y⟩ := h.at_ i d a; ⟨v, by rw [b]; exact x, y⟩⟩

def tE (G : Gx) (f : Den) : TE := fun σ H Q => ∃ ρ env S d S', EnR G ρ H env σ ∧ SR G ρ H S ∧ f env S = some (d, S') ∧ ∀ ρ' v H', Step ρ H ρ' H' → SR G ρ' H' S' → Rp G ρ' H' d v → Q v H'
def tT (G : Gx) (f : TDen) : TT := fun σ H Q => ∃ ρ env S b S', EnR G ρ H env σ ∧ SR G ρ H S ∧ f env S = some (b, S') ∧ ∀ ρ' H', Step ρ H ρ' H' → SR G ρ' H' S' → Q b H'
def tA (G : Gx) (f : ADen) : TA := fun σ H Q => ∃ ρ env S ds S', EnR G ρ H env σ ∧ SR G ρ H S ∧ f env S = some (ds, S') ∧ ∀ ρ' vs H', Step ρ H ρ' H' → SR G ρ' H' S' → RpL G ρ' H' ds vs → Q vs H'
structure ME (X : Cx) (e : Expr) (f : Den) : Prop where
  pe : PE X e (tE (gx X) f)
structure MT (X : Cx) (e : Expr) (f : TDen) : Prop where
  pt : PT X e (tT (gx X) f)
/-- a test whatever its whole is (and, or) -/
structure MW (X : Cx) (e : Expr) (f : TDen) : Prop where
  pw : PW X e (tT (gx X) f)
structure MA (X : Cx) (es : List Expr) (f : ADen) : Prop where
  pa : PA X es (tA (gx X) f)
theorem PE.weak {X : Cx} {e : Expr} {t t' : TE} (h : PE X e t) (hw : ∀ σ H Q, t' σ H Q → t σ H Q) : PE X e t' := ⟨fun pins s σ H Q I q => h.run pins s σ H Q I (hw σ H Q q)⟩
theorem PT.weak {X : Cx} {e : Expr} {t t' : TT} (h : PT X e t) (hw : ∀ σ H Q, t' σ H Q → t σ H Q) : PT X e t' := ⟨fun pins s σ H Q I q => h.run pins s σ H Q I (hw σ H Q q)⟩
theorem PW.weak {X : Cx} {e : Expr} {t t' : TT} (h : PW X e t) (hw : ∀ σ H Q, t' σ H Q → t σ H Q) : PW X e t' := ⟨fun wh pins s σ H Q I q => h.run wh pins s σ H Q I (hw σ H Q q)⟩
theorem PA.weak {X : Cx} {e : List Expr} {t t' : TA} (h : PA X e t) (hw : ∀ σ H Q, t' σ H Q → t σ H Q) : PA X e t' := ⟨fun pos pins s σ H Q I q => h.run pos pins s σ H Q I (hw σ H Q q)⟩

section
variable {G : Gx} {f g : Den} {σ : L2.St} {H : Hp}
theorem tE.mono {Q Q' : VK} (h : tE G f σ H Q) (q : ∀ v H', Q v H' → Q' v H') : tE G f σ H Q' := by
  obtain ⟨ρ, env, S, d, S', a, b, c, k⟩ := h
  exact ⟨ρ, env, S, d, S', a, b, c, fun ρ' v H' x y z => q _ _ (k ρ' v H' x y z)⟩
/-- from one part on to the rest -/
theorem tE.bind {ρ : List Lo} {env : En} {S S1 : Sto} {d : D} {R : VK} (he : EnR G ρ H env σ) (hs : SR G ρ H S) (h : f env S = some (d, S1))
    (k : ∀ ρ' v H', Step ρ H ρ' H' → EnR G ρ' H' env σ → SR G ρ' H' S1 → Rp G ρ' H' d v → R v H') : tE G f σ H R :=
  ⟨ρ, env, S, d, S1, he, hs, h, fun ρ' v H' x y z => k ρ' v H' x (he.step x) y z⟩
end
theorem bind2 {α β γ : Type} {o : Option (α × β)} {k : α × β → Option γ} {r : γ} (h : o.bind k = some r) : ∃ x y, o = some (x, y) ∧ k (x, y) = some r := by
  obtain ⟨⟨x, y⟩, a, b⟩ := Option.bind_eq_some_iff.mp h
  exact ⟨x, y, a, b⟩

/-! ### names and constants -/
def eVar (i : Nat) : Den := fun env S => match env[i]? with
  | some (some d) => some (d, S)
  | _ => none
def eC (d : D) : Den := fun _ S => some (d, S)
section
variable {X : Cx} {pos p : Pos}
theorem me_var (i : Nat) {x : Str} (hN : X.N[i]? = some x := by rfl) (hv : Vis X.env.scope x := by first | exact Or.inl rfl | exact Or.inr (Or.inl rfl) | exact Or.inr (Or.inr rfl)) (hd : (x == ("__debug__" : Str)) = false := by decide)
    (hcd : (x == ("__classdict__" : Str)) = false := by decide) : ME X (.Name x pos) (eVar i) := by
  refine ⟨PE.weak (pe_var hN hv hd hcd) fun σ H Q h => ?_⟩
  obtain ⟨ρ, env, S, d, S', a, b, c, k⟩ := h
  unfold eVar at c
  split at c
  · rename_i d' e
    cases c
    obtain ⟨v, e1, r⟩ := a.at_ i _ e
    exact ⟨v, e1, k ρ v H (Step.refl _ _) b r⟩
  · cases c
theorem me_const {e : Expr} {v : V} {d : D} (h : PE X e (tC v)) (r : ∀ G ρ H, Rp G ρ H d v) : ME X e (eC d) := by
  refine ⟨PE.weak h fun σ H Q h => ?_⟩
  obtain ⟨ρ, env, S, d', S', a, b, c, k⟩ := h
  cases c
  exact k ρ v H (Step.refl _ _) b (r _ _ _)
theorem me_int {i j} : ME X (.Constant (.int i) j pos) (eC (.int i)) := me_const pe_int fun _ _ _ => by simp [Rp]
theorem me_bl {b j} : ME X (.Constant (.bool b) j pos) (eC (.bl b)) := me_const pe_bl fun _ _ _ => by simp [Rp]
theorem me_non {j} : ME X (.Constant .none j pos) (eC .non) := me_const pe_non fun _ _ _ => by simp [Rp]
theorem me_str {x j} : ME X (.Constant (.str x) j pos) (eC (.str x)) := me_const pe_str fun _ _ _ => by simp [Rp]
/-- a name of the module -/
theorem me_glob {x : Str} {d : D} {v : V} {u : Value} (hg : Gl X x) (hm : X.mg x = some u) (r : RelV v u) (hr : ∀ ρ H, Rp (gx X) ρ H d v) (hd : (x == ("__debug__" : Str)) = false := by decide) : ME X (.Name x pos) (eC d) := by
  refine ⟨PE.weak (pe_glob hg hm r hd) fun σ H Q h => ?_⟩
  obtain ⟨ρ, env, S, d', S', a, b, c, k⟩ := h
  cases c
  exact k ρ v H (Step.refl _ _) b (hr _ _)
/-- the name of a built-in class -/
theorem me_ty {x : Str} {n : String} (hg : Gl X x) (hm : X.mg x = none) (hv : bootBuiltins x = some (.type n)) (hn : x ≠ "__name__" := by decide) (hd : (x == ("__debug__" : Str)) = false := by decide) : ME X (.Name x pos) (eC (.ty n)) := by
  refine ⟨PE.weak (pe_bltn (v := .ty n) hg hm hv rfl hn hd) fun σ H Q h => ?_⟩
  obtain ⟨ρ, env, S, d', S', a, b, c, k⟩ := h
  cases c
  exact k ρ (.ty n) H (Step.refl _ _) b (by simp [Rp])
/-- a def by its name -/
theorem me_fn {x : Str} {f : Addr} (hg : Gl X x) (hm : X.mg x = some (.ref f)) (hd : (x == ("__debug__" : Str)) = false := by decide) : ME X (.Name x pos) (eC (.fn x)) :=
  me_glob hg hm (v := .ref f) rfl (fun _ _ => by simp only [Rp]; exact ⟨_, hm, rfl⟩) hd
end

/-! ### operations -/
def rD (G : Gx) (g : Op2) : R2 := fun x y H Q => ∃ ρ S d1 d2 d S', SR G ρ H S ∧ Rp G ρ H d1 x ∧ Rp G ρ H d2 y ∧ g d1 d2 S = some (d, S') ∧ ∀ ρ' v H', Step ρ H ρ' H' → SR G ρ' H' S' → Rp G ρ' H' d v → Q v H'
def rU1 (G : Gx) (g : Op1) : V → Hp → VK → Prop := fun x H Q => ∃ ρ S d1 d S', SR G ρ H S ∧ Rp G ρ H d1 x ∧ g d1 S = some (d, S') ∧ ∀ ρ' v H', Step ρ H ρ' H' → SR G ρ' H' S' → Rp G ρ' H' d v → Q v H'
def rC (G : Gx) (g : Fn) : List V → Hp → VK → Prop := fun xs H Q => ∃ ρ S ds d S', SR G ρ H S ∧ RpL G ρ H ds xs ∧ g ds S = some (d, S') ∧ ∀ ρ' v H', Step ρ H ρ' H' → SR G ρ' H' S' → Rp G ρ' H' d v → Q v H'
def eOp (g : Op2) (fa fb : Den) : Den := fun env S => (fa env S).bind fun p => (fb env p.2).bind fun q => g p.1 q.1 q.2
def eUn (g : Op1) (fa : Den) : Den := fun env S => (fa env S).bind fun p => g p.1 p.2
abbrev Imp2 (G : Gx) (g : Op2) (r : R2) : Prop := ∀ x y H Q, rD G g x y H Q → r x y H Q
abbrev ImpC (G : Gx) (g : Fn) (r : List V → Hp → VK → Prop) : Prop := ∀ xs H Q, rC G g xs H Q → r xs H Q
theorem bin_imp {G : Gx} {g : Op2} {r : R2} (hi : Imp2 G g r) {fa fb : Den} {σ : L2.St} {H : Hp} {Q : VK} (h : tE G (eOp g fa fb) σ H Q) : tOp r (tE G fa) (tE G fb) σ H Q := by
  obtain ⟨ρ, env, S, d, S', he, hs, hf, q⟩ := h
  obtain ⟨x, S1, h1, hf⟩ := bind2 hf
  obtain ⟨y, S2, h2, hg⟩ := bind2 hf
  refine tE.bind he hs h1 fun ρ1 v1 H1 st1 he1 sr1 r1 => ?_
  refine tE.bind he1 sr1 h2 fun ρ2 v2 H2 st2 he2 sr2 r2 => ?_
  exact hi _ _ _ _ ⟨ρ2, S2, x, y, d, S', sr2, r1.step st2, r2, hg, fun ρ' v H' st sr rr => q ρ' v H' ((st1.trans st2).trans st) sr rr⟩
theorem un_imp {G : Gx} {g : Op1} {r : V → Hp → VK → Prop} (hi : ∀ x H Q, rU1 G g x H Q → r x H Q) {fa : Den} {σ : L2.St} {H : Hp} {Q : VK} (h : tE G (eUn g fa) σ H Q) : tUn r (tE G fa) σ H Q := by
  obtain ⟨ρ, env, S, d, S', he, hs, hf, q⟩ := h
  obtain ⟨x, S1, h1, hg⟩ := bind2 hf
  refine tE.bind he hs h1 fun ρ1 v1 H1 st1 he1 sr1 r1 => ?_
  exact hi _ _ _ ⟨ρ1, S1, x, d, S', sr1, r1, hg, fun ρ' v H' st sr rr => q ρ' v H' (st1.trans st) sr rr⟩
section
variable {X : Cx} {a b c : Expr} {fa fb fc : Den} {pos : Pos}
theorem me_op {op : Operator} {g : Op2} {r : R2} (ho : OpR X (binaryOp op) r) (hi : Imp2 (gx X) g r) (ha : ME X a fa) (hb : ME X b fb) : ME X (.BinOp a op b pos) (eOp g fa fb) :=
  ⟨PE.weak (pe_op ho ha.pe hb.pe) fun _ _ _ h => bin_imp hi h⟩
theorem me_un {op : UnaryOp} {g : Op1} {r : V → Hp → VK → Prop} (ho : UnR X (unaryOp op) r) (hi : ∀ x H Q, rU1 (gx X) g x H Q → r x H Q) (ha : ME X a fa) : ME X (.UnaryOp op a pos) (eUn g fa) :=
  ⟨PE.weak (pe_un ho ha.pe) fun _ _ _ h => un_imp hi h⟩
theorem me_cmp {op : CmpOp} {g : Op2} {r : R2} (ho : OpR X (compareOp op) r) (hi : Imp2 (gx X) g r) (ha : ME X a fa) (hb : ME X b fb) (hm : behindInMarks op b = false := by first | exact nomark _ | rfl) : ME X (.Compare a [op] [b] pos) (eOp g fa fb) :=
  ⟨PE.weak (pe_cmpR ho ha.pe hb.pe hm) fun _ _ _ h => bin_imp hi h⟩
end
end ML

namespace ML
open PySem PySem.Spec PyProof.Rows L2

/-! ### truth -/
/-- the items of a list's place, in either kind -/
def Ob.xs? : Ob → Option (List D)
  | .lst xs => some xs
  | .rol xs => some xs
  | _ => none
def lsAt (S : Sto) (l : Nat) : Option (List D) := S[l]?.bind Ob.xs?
theorem lsAt_of {G : Gx} {ρ : List Lo} {H : Hp} {S : Sto} (h : SR G ρ H S) {l : Nat} {xs : List D} (e : lsAt S l = some xs) : ∃ a vs, ρ[l]? = some a ∧ SqL G.K H a.1 vs ∧ RpL G ρ H xs vs := by
  obtain ⟨o, e1, e2⟩ := Option.bind_eq_some_iff.mp e
  obtain ⟨a, r, ob, _⟩ := h.get e1
  cases o with
  | lst ys => cases e2; obtain ⟨vs, q, rr⟩ := ob; exact ⟨a, vs, r, .inl (.inl q), rr⟩
  | rol ys => cases e2; obtain ⟨vs, q, rr⟩ := ob; exact ⟨a, vs, r, q.sq, rr⟩
  | dk _ => cases e2
  | ins _ _ => cases e2
def truD : D → Sto → Option Bool
  | .non, _ => some false
  | .bl b, _ => some b
  | .int i, _ => some (i != 0)
  | .str x, _ => if x.length ≤ sizeLine then some ((x.length : Int) != 0) else none
  | .tup xs, _ => some (!xs.isEmpty)
  | .loc l, S => match S[l]? with
    | some (.lst xs) => some (!xs.isEmpty)
    | some (.rol xs) => some (!xs.isEmpty)
    | some (.dk kvs) => some (!kvs.isEmpty)
    | _ => none
  | _, _ => none
theorem isEmpty_L {G : Gx} {ρ : List Lo} {H : Hp} {ds : List D} {vs : List V} (h : RpL G ρ H ds vs) : ds.isEmpty = vs.isEmpty := by
  cases ds with
  | nil => simp only [RpL] at h; subst h; rfl
  | cons d r => simp only [RpL] at h; obtain ⟨v, q, rfl, _⟩ := h; rfl
theorem isEmpty_K {G : Gx} {ρ : List Lo} {H : Hp} {ds : List (Key × D)} {vs : List (Key × V)} (h : RpK G ρ H ds vs) : ds.isEmpty = vs.isEmpty := by
  cases ds with
  | nil => simp only [RpK] at h; subst h; rfl
  | cons d r => simp only [RpK] at h; obtain ⟨v, q, rfl, _⟩ := h; rfl
theorem truD_ok {G : Gx} {ρ : List Lo} {H : Hp} {S : Sto} (h : SR G ρ H S) {d : D} {v : V} {k : Bool} (r : Rp G ρ H d v) (e : truD d S = some k) : TruV G.K v H k := by
  cases d with
  | non => simp only [Rp] at r; subst r; cases e; rfl
  | bl b => simp only [Rp] at r; subst r; cases e; rfl
  | int i => simp only [Rp] at r; subst r; cases e; rfl
  | str x =>
    simp only [Rp] at r; subst r
    simp only [truD] at e
    by_cases h1 : x.length ≤ sizeLine
    · rw [if_pos h1] at e; cases e; exact ⟨h1, rfl⟩
    · rw [if_neg h1] at e; cases e
  | tup xs =>
    simp only [Rp] at r
    obtain ⟨a, vs, rfl, q, rr⟩ := r
    cases e
    exact .inr (.inl ⟨vs, q, by rw [isEmpty_L rr]⟩)
  | loc l =>
    simp only [Rp] at r
    obtain ⟨a, hr, rfl⟩ := r
    simp only [truD] at e
    split at e
    · rename_i xs e1; cases e
      obtain ⟨vs, q, rr⟩ := h.obj _ _ _ e1 hr
      exact .inl ⟨vs, .inl (.inl q), by rw [isEmpty_L rr]⟩
    · rename_i xs e1; cases e
      obtain ⟨vs, q, rr⟩ := h.obj _ _ _ e1 hr
      exact .inl ⟨vs, q.sq, by rw [isEmpty_L rr]⟩
    · rename_i xs e1; cases e
      obtain ⟨vs, q, rr⟩ := h.obj _ _ _ e1 hr
      exact .inr (.inr ⟨vs, q, by rw [isEmpty_K rr]⟩)
    · cases e
  | ty n => cases e
  | fn x => cases e

/-! ### tests -/
def tTru (f : Den) : TDen := fun env S => (f env S).bind fun p => (truD p.1 p.2).map fun k => (k, p.2)
def asB (f : Den) : TDen := fun env S => (f env S).bind fun p => match p.1 with
  | .bl b => some (b, p.2)
  | _ => none
def tAnd (f g : TDen) : TDen := fun env S => (f env S).bind fun p => if p.1 = true then g env p.2 else some (false, p.2)
def tOr (f g : TDen) : TDen := fun env S => (f env S).bind fun p => if p.1 = true then some (true, p.2) else g env p.2
def tNot (f : TDen) : TDen := fun env S => (f env S).bind fun p => some (!p.1, p.2)
theorem tT.bind {G : Gx} {f : TDen} {σ : L2.St} {H : Hp} {ρ : List Lo} {env : En} {S S1 : Sto} {b : Bool} {R : Bool → Hp → Prop} (he : EnR G ρ H env σ) (hs : SR G ρ H S) (h : f env S = some (b, S1))
    (k : ∀ ρ' H', Step ρ H ρ' H' → EnR G ρ' H' env σ → SR G ρ' H' S1 → R b H') : tT G f σ H R :=
  ⟨ρ, env, S, b, S1, he, hs, h, fun ρ' H' x y => k ρ' H' x (he.step x) y⟩
section
variable {X : Cx} {a b c : Expr} {fa fb fc : Den} {ta tb : TDen} {rest : List Expr} {pos : Pos}
theorem mt_val (ha : ME X a fa) (he : ∀ whole, isTrue a X.env whole = (do let v ← whole; standAt a.pos; holding [v] (truthy v)) := by intro _; rfl) : MT X a (tTru fa) := by
  refine ⟨PT.weak (pt_truth ha.pe he) fun σ H Q h => ?_⟩
  obtain ⟨ρ, env, S, k, S', he, hs, hf, q⟩ := h
  obtain ⟨x, S1, h1, h2⟩ := bind2 hf
  obtain ⟨k', h3, h4⟩ := Option.map_eq_some_iff.mp h2
  cases h4
  refine tE.bind he hs h1 fun ρ1 v1 H1 st1 he1 sr1 r1 => ?_
  exact ⟨k, truD_ok sr1 r1 h3, q ρ1 H1 st1 sr1⟩
theorem rp_bl {G : Gx} {ρ : List Lo} {H : Hp} {b : Bool} {v : V} (h : Rp G ρ H (.bl b) v) : v = .bl b := by simpa only [Rp] using h
theorem rp_int {G : Gx} {ρ : List Lo} {H : Hp} {b : Int} {v : V} (h : Rp G ρ H (.int b) v) : v = .int b := by simpa only [Rp] using h
theorem rp_str {G : Gx} {ρ : List Lo} {H : Hp} {b : Str} {v : V} (h : Rp G ρ H (.str b) v) : v = .str b := by simpa only [Rp] using h
theorem rp_non {G : Gx} {ρ : List Lo} {H : Hp} {v : V} (h : Rp G ρ H .non v) : v = .non := by simpa only [Rp] using h
theorem rp_of_bl {G : Gx} {ρ : List Lo} {H : Hp} (b : Bool) : Rp G ρ H (.bl b) (.bl b) := by simp only [Rp]
theorem rp_of_int {G : Gx} {ρ : List Lo} {H : Hp} (b : Int) : Rp G ρ H (.int b) (.int b) := by simp only [Rp]
theorem rp_of_str {G : Gx} {ρ : List Lo} {H : Hp} (b : Str) : Rp G ρ H (.str b) (.str b) := by simp only [Rp]
theorem rp_of_non {G : Gx} {ρ : List Lo} {H : Hp} : Rp G ρ H .non .non := by simp only [Rp]
theorem asB_some {f : Den} {env : En} {S S' : Sto} {k : Bool} (h : asB f env S = some (k, S')) : f env S = some (.bl k, S') := by
  obtain ⟨x, S1, h1, h2⟩ := bind2 h
  cases x <;> first | cases h2 | skip
  exact h1
theorem mt_cmp {op : CmpOp} {g : Op2} {r : R2} (ho : OpR X (compareOp op) r) (hi : Imp2 (gx X) g r) (ha : ME X a fa) (hb : ME X b fb) (hm : behindInMarks op b = false := by first | exact nomark _ | rfl) : MT X (.Compare a [op] [b] pos) (asB (eOp g fa fb)) := by
  refine ⟨PT.weak (pt_cmpR ho ha.pe hb.pe hm) fun σ H Q h => ?_⟩
  obtain ⟨ρ, env, S, k, S', he, hs, hf, q⟩ := h
  refine bin_imp hi ⟨ρ, env, S, .bl k, S', he, hs, asB_some hf, fun ρ' v H' st sr rr => ⟨k, rp_bl rr, q ρ' H' st sr⟩⟩
theorem mt_not (ha : MT X a ta) : MT X (.UnaryOp .Not a pos) (tNot ta) := by
  refine ⟨PT.weak (pt_not ha.pt) fun σ H Q h => ?_⟩
  obtain ⟨ρ, env, S, k, S', he, hs, hf, q⟩ := h
  obtain ⟨x, S1, h1, h2⟩ := bind2 hf
  cases h2
  exact tT.bind he hs h1 fun ρ1 H1 st1 he1 sr1 => q ρ1 H1 st1 sr1
theorem mw_and1 (ha : MT X a ta) : MW X (.BoolOp .And [a] pos) ta := ⟨pw_and1 ha.pt⟩
theorem mw_or1 (ha : MT X a ta) : MW X (.BoolOp .Or [a] pos) ta := ⟨pw_or1 ha.pt⟩
theorem mw_and (ha : MT X a ta) (hb : MW X (.BoolOp .And (b :: rest) pos) tb) : MW X (.BoolOp .And (a :: b :: rest) pos) (tAnd ta tb) := by
  refine ⟨PW.weak (pw_and ha.pt hb.pw) fun σ H Q h => ?_⟩
  obtain ⟨ρ, env, S, k, S', he, hs, hf, q⟩ := h
  obtain ⟨x, S1, h1, h2⟩ := bind2 hf
  refine tT.bind he hs h1 fun ρ1 H1 st1 he1 sr1 => ?_
  cases x with
  | true => exact tT.bind he1 sr1 h2 fun ρ2 H2 st2 he2 sr2 => q ρ2 H2 (st1.trans st2) sr2
  | false => cases h2; exact q ρ1 H1 st1 sr1
theorem mw_or (ha : MT X a ta) (hb : MW X (.BoolOp .Or (b :: rest) pos) tb) : MW X (.BoolOp .Or (a :: b :: rest) pos) (tOr ta tb) := by
  refine ⟨PW.weak (pw_or ha.pt hb.pw) fun σ H Q h => ?_⟩
  obtain ⟨ρ, env, S, k, S', he, hs, hf, q⟩ := h
  obtain ⟨x, S1, h1, h2⟩ := bind2 hf
  refine tT.bind he hs h1 fun ρ1 H1 st1 he1 sr1 => ?_
  cases x with
  | false => exact tT.bind he1 sr1 h2 fun ρ2 H2 st2 he2 sr2 => q ρ2 H2 (st1.trans st2) sr2
  | true => cases h2; exact q ρ1 H1 st1 sr1
theorem mt_bool {op : BoolOp} {es : List Expr} (h : MW X (.BoolOp op es pos) ta) : MT X (.BoolOp op es pos) ta := ⟨h.pw.pt⟩
/-! values -/
def eAnd (f g : Den) : Den := fun env S => (f env S).bind fun p => (truD p.1 p.2).bind fun k => if k = true then g env p.2 else some p
def eOr (f g : Den) : Den := fun env S => (f env S).bind fun p => (truD p.1 p.2).bind fun k => if k = true then some p else g env p.2
def eNot (f : Den) : Den := fun env S => (f env S).bind fun p => (truD p.1 p.2).bind fun k => some (.bl (!k), p.2)
def eIf (t : TDen) (f g : Den) : Den := fun env S => (t env S).bind fun p => if p.1 = true then f env p.2 else g env p.2
theorem me_one {op : BoolOp} (h : ME X a fa) : ME X (.BoolOp op [a] pos) fa := ⟨pe_one h.pe⟩
theorem me_and (ha : ME X a fa) (hb : ME X (.BoolOp .And (b :: rest) pos) fb) : ME X (.BoolOp .And (a :: b :: rest) pos) (eAnd fa fb) := by
  refine ⟨PE.weak (pe_andT ha.pe hb.pe) fun σ H Q h => ?_⟩
  obtain ⟨ρ, env, S, k, S', he, hs, hf, q⟩ := h
  obtain ⟨x, S1, h1, h2⟩ := bind2 hf
  obtain ⟨t, h3, h4⟩ := Option.bind_eq_some_iff.mp h2
  refine tE.bind he hs h1 fun ρ1 v1 H1 st1 he1 sr1 r1 => ⟨t, truD_ok sr1 r1 h3, ?_⟩
  cases t with
  | true => exact tE.bind he1 sr1 h4 fun ρ2 v2 H2 st2 he2 sr2 r2 => q ρ2 v2 H2 (st1.trans st2) sr2 r2
  | false => cases h4; exact q ρ1 v1 H1 st1 sr1 r1
theorem me_or (ha : ME X a fa) (hb : ME X (.BoolOp .Or (b :: rest) pos) fb) : ME X (.BoolOp .Or (a :: b :: rest) pos) (eOr fa fb) := by
  refine ⟨PE.weak (pe_orT ha.pe hb.pe) fun σ H Q h => ?_⟩
  obtain ⟨ρ, env, S, k, S', he, hs, hf, q⟩ := h
  obtain ⟨x, S1, h1, h2⟩ := bind2 hf
  obtain ⟨t, h3, h4⟩ := Option.bind_eq_some_iff.mp h2
  refine tE.bind he hs h1 fun ρ1 v1 H1 st1 he1 sr1 r1 => ⟨t, truD_ok sr1 r1 h3, ?_⟩
  cases t with
  | false => exact tE.bind he1 sr1 h4 fun ρ2 v2 H2 st2 he2 sr2 r2 => q ρ2 v2 H2 (st1.trans st2) sr2 r2
  | true => cases h4; exact q ρ1 v1 H1 st1 sr1 r1
theorem me_if (hc : MT X c ta) (ha : ME X a fa) (hb : ME X b fb) : ME X (.IfExp c a b pos) (eIf ta fa fb) := by
  refine ⟨PE.weak (pe_ifExp hc.pt ha.pe hb.pe) fun σ H Q h => ?_⟩
  obtain ⟨ρ, env, S, k, S', he, hs, hf, q⟩ := h
  obtain ⟨x, S1, h1, h2⟩ := bind2 hf
  refine tT.bind he hs h1 fun ρ1 H1 st1 he1 sr1 => ?_
  cases x with
  | true => exact tE.bind he1 sr1 h2 fun ρ2 v2 H2 st2 he2 sr2 r2 => q ρ2 v2 H2 (st1.trans st2) sr2 r2
  | false => exact tE.bind he1 sr1 h2 fun ρ2 v2 H2 st2 he2 sr2 r2 => q ρ2 v2 H2 (st1.trans st2) sr2 r2
/-- a < b < c -/
def eChain (g g' : Op2) (fa fb fc : Den) : Den := fun env S => (fa env S).bind fun p => (fb env p.2).bind fun q => (g p.1 q.1 q.2).bind fun r => match r.1 with
  | .bl true => (fc env r.2).bind fun s => g' q.1 s.1 s.2
  | .bl false => some (.bl false, r.2)
  | _ => none
theorem chain_imp {G : Gx} {g g' : Op2} {r r' : R2} (hi : Imp2 G g r) (hi' : Imp2 G g' r') {σ : L2.St} {H : Hp} {Q : VK} (h : tE G (eChain g g' fa fb fc) σ H Q) : tChain r r' (tE G fa) (tE G fb) (tE G fc) σ H Q := by
  obtain ⟨ρ, env, S, k, S', he, hs, hf, q⟩ := h
  obtain ⟨x, S1, h1, hf⟩ := bind2 hf
  obtain ⟨y, S2, h2, hf⟩ := bind2 hf
  obtain ⟨z, S3, h3, hf⟩ := bind2 hf
  refine tE.bind he hs h1 fun ρ1 v1 H1 st1 he1 sr1 r1 => ?_
  refine tE.bind he1 sr1 h2 fun ρ2 v2 H2 st2 he2 sr2 r2 => ?_
  refine hi _ _ _ _ ⟨ρ2, S2, x, y, z, S3, sr2, r1.step st2, r2, h3, fun ρ3 v3 H3 st3 sr3 r3 => ?_⟩
  cases z with
  | bl b =>
    refine ⟨b, rp_bl r3, ?_⟩
    cases b with
    | true =>
      obtain ⟨w, S4, h4, h5⟩ := bind2 hf
      refine tE.bind (he2.step st3) sr3 h4 fun ρ4 v4 H4 st4 he4 sr4 r4 => ?_
      exact hi' _ _ _ _ ⟨ρ4, S4, y, w, k, S', sr4, (r2.step st3).step st4, r4, h5, fun ρ' v H' st sr rr => q ρ' v H' ((((st1.trans st2).trans st3).trans st4).trans st) sr rr⟩
    | false => cases hf; exact q ρ3 _ H3 ((st1.trans st2).trans st3) sr3 (rp_of_bl _)
  | _ => cases hf
theorem me_chain {op op' : CmpOp} {g g' : Op2} {r r' : R2} (ho : OpR X (compareOp op) r) (hi : Imp2 (gx X) g r) (ho' : OpR X (compareOp op') r') (hi' : Imp2 (gx X) g' r') (ha : ME X a fa) (hb : ME X b fb) (hc : ME X c fc)
    (hm : lastMarks [op, op'] [b, c] = false := by with_unfolding_all rfl) : ME X (.Compare a [op, op'] [b, c] pos) (eChain g g' fa fb fc) :=
  ⟨PE.weak (pe_chain ho ho' ha.pe hb.pe hc.pe hm) fun _ _ _ h => chain_imp hi hi' h⟩
theorem mt_chain {op op' : CmpOp} {g g' : Op2} {r r' : R2} (ho : OpR X (compareOp op) r) (hi : Imp2 (gx X) g r) (ho' : OpR X (compareOp op') r') (hi' : Imp2 (gx X) g' r') (ha : ME X a fa) (hb : ME X b fb) (hc : ME X c fc)
    (hm : lastMarks [op, op'] [b, c] = false := by with_unfolding_all rfl) : MT X (.Compare a [op, op'] [b, c] pos) (asB (eChain g g' fa fb fc)) := by
  refine ⟨PT.weak (pt_chain ho ho' ha.pe hb.pe hc.pe hm) fun σ H Q h => ?_⟩
  obtain ⟨ρ, env, S, k, S', he, hs, hf, q⟩ := h
  exact chain_imp hi hi' ⟨ρ, env, S, .bl k, S', he, hs, asB_some hf, fun ρ' v H' st sr rr => ⟨k, rp_bl rr, q ρ' H' st sr⟩⟩
end

/-! ### arguments, displays, calls -/
def aNil : ADen := fun _ S => some ([], S)
def aCons (f : Den) (g : ADen) : ADen := fun env S => (f env S).bind fun p => (g env p.2).bind fun q => some (p.1 :: q.1, q.2)
theorem tA.bind {G : Gx} {f : ADen} {σ : L2.St} {H : Hp} {ρ : List Lo} {env : En} {S S1 : Sto} {b : List D} {R : List V → Hp → Prop} (he : EnR G ρ H env σ) (hs : SR G ρ H S) (h : f env S = some (b, S1))
    (k : ∀ ρ' vs H', Step ρ H ρ' H' → EnR G ρ' H' env σ → SR G ρ' H' S1 → RpL G ρ' H' b vs → R vs H') : tA G f σ H R :=
  ⟨ρ, env, S, b, S1, he, hs, h, fun ρ' vs H' x y z => k ρ' vs H' x (he.step x) y z⟩
section
variable {X : Cx} {e : Expr} {es : List Expr} {fe : Den} {fs : ADen} {pos : Pos}
theorem ma_nil : MA X [] aNil := by
  refine ⟨PA.weak pa_nil fun σ H Q h => ?_⟩
  obtain ⟨ρ, env, S, k, S', he, hs, hf, q⟩ := h
  cases hf
  exact q ρ [] H (Step.refl _ _) hs RpL.nil
theorem ma_cons (ha : ME X e fe) (hr : MA X es fs) (hs : starEach (e :: es) X.env = (false, eval e X.env) :: starEach es X.env := by rfl) : MA X (e :: es) (aCons fe fs) := by
  refine ⟨PA.weak (pa_cons ha.pe hr.pa hs) fun σ H Q h => ?_⟩
  obtain ⟨ρ, env, S, k, S', he, hs, hf, q⟩ := h
  obtain ⟨x, S1, h1, hf⟩ := bind2 hf
  obtain ⟨y, S2, h2, hf⟩ := bind2 hf
  cases hf
  refine tE.bind he hs h1 fun ρ1 v1 H1 st1 he1 sr1 r1 => ?_
  exact tA.bind he1 sr1 h2 fun ρ2 vs H2 st2 he2 sr2 r2 => q ρ2 _ H2 (st1.trans st2) sr2 (RpL.cons (r1.step st2) r2)
def eTup (f : ADen) : Den := fun env S => (f env S).bind fun p => if p.1.length ≤ sizeLine then some (.tup p.1, p.2) else none
theorem rp_tup {G : Gx} {ρ : List Lo} {H : Hp} {p : Addr} {ds : List D} {vs : List V} (hp : H p = none) (r : RpL G ρ H ds vs) : Rp G ρ (upd H p (.tup vs)) (.tup ds) (.ref p) := by
  simp only [Rp]
  exact ⟨p, vs, rfl, .inl (.inl upd_same), r.step (Step.untracked hp)⟩
theorem rp_loc {G : Gx} {ρ : List Lo} {H : Hp} {p : Addr} {S : Sto} (h : SR G ρ H S) {H' : Hp} : Rp G (ρ ++ [(p, true)]) H' (.loc S.length) (.ref p) := by
  simp only [Rp]
  exact ⟨(p, true), by rw [← h.len]; simp, rfl⟩
theorem SR.newL {G : Gx} {ρ : List Lo} {H : Hp} {p : Addr} {S : Sto} (h : SR G ρ H S) (hp : H p = none) {ds : List D} {vs : List V} (r : RpL G ρ H ds vs) : SR G (ρ ++ [(p, true)]) (upd H p (.lst vs)) (S ++ [.lst ds]) :=
  h.new hp rfl ⟨vs, upd_same, r.step (Step.newloc hp)⟩
theorem me_tup {k : Nat} (h : MA X es fs) : ME X (.Tuple es k pos) (eTup fs) := by
  refine ⟨PE.weak (pe_tup h.pa) fun σ H Q h => ?_⟩
  obtain ⟨ρ, env, S, d, S', he, hs, hf, q⟩ := h
  obtain ⟨x, S1, h1, hf⟩ := bind2 hf
  split at hf
  · cases hf
    rename_i hz
    refine tA.bind he hs h1 fun ρ1 vs H1 st1 he1 sr1 r1 => ⟨by rw [r1.length]; exact hz, fun p hp => ?_⟩
    exact q ρ1 _ _ (st1.trans (Step.untracked hp)) (sr1.untracked hp) (rp_tup hp r1)
  · cases hf
/-- a call by values -/
def eCall (g : Fn) (f : ADen) : Den := fun env S => (f env S).bind fun p => g p.1 p.2
/-- what a def promises: its function on data -/
def spD (G : Gx) (g : Fn) : Sp := fun vs H Q _ => rC G g vs H Q
theorem call_imp {G : Gx} {g : Fn} {r : List V → Hp → VK → Prop} (hi : ImpC G g r) {σ : L2.St} {H : Hp} {Q : VK} (h : tE G (eCall g fs) σ H Q) : tCB r (tA G fs) σ H Q := by
  obtain ⟨ρ, env, S, d, S', he, hs, hf, q⟩ := h
  obtain ⟨x, S1, h1, hf⟩ := bind2 hf
  refine tA.bind he hs h1 fun ρ1 vs H1 st1 he1 sr1 r1 => ?_
  exact hi _ _ _ ⟨ρ1, S1, x, d, S', sr1, r1, hf, fun ρ' v H' st sr rr => q ρ' v H' (st1.trans st) sr rr⟩
theorem me_call {k k' : Nat} {f : Addr} {fd : FuncData} {ps : List Str} {g : Fn} {x : Str} {p : Pos} (F : FnOk X.prog X.w X.K X.mg X.base CX0 k f fd ps (spD (gx X) g)) (hr : Room k' X.A) (hk' : k ≤ k') (hg : Gl X x) (hm : X.mg x = some (.ref f)) (hk : PySem.W.keepIn X.K (.ref f) = true) (hb : Binds X.K fd ps []) (ha : MA X (e :: es) fs)
    (hdb : (x == ("__debug__" : Str)) = false := by decide) (he : starEach (e :: es) X.env = (false, eval e X.env) :: starEach es X.env := by rfl) (hpl : (backTo pos (starEach es X.env)).any (·.1) = false := by rfl) :
    ME X (.Call (.Name x p) (e :: es) [] pos) (eCall g fs) := by
  refine ⟨PE.weak (pe_call F (hr.mono hk') hg hm hk hb .nil pass0 ha.pa hdb he hpl) fun σ H Q h => ?_⟩
  have z := call_imp (r := rC (gx X) g) (fun _ _ _ h => h) h
  unfold tCall
  unfold tCB at z
  simpa [spD] using z
/-- a built-in def by its name -/
theorem me_callB {id : String} {g : Fn} {r : List V → Hp → VK → Prop} {x : Str} {p : Pos} (hc : CallR X (.builtin id) r) (hi : ImpC (gx X) g r) (hg : Gl X x) (hm : X.mg x = none) (hv : bootBuiltins x = some (.builtin id)) (ha : MA X (e :: es) fs) (hn : x ≠ "__name__" := by decide) (hdb : (x == ("__debug__" : Str)) = false := by decide)
    (he : starEach (e :: es) X.env = (false, eval e X.env) :: starEach es X.env := by rfl) (hpl : (backTo pos (starEach es X.env)).any (·.1) = false := by rfl) : ME X (.Call (.Name x p) (e :: es) [] pos) (eCall g fs) :=
  ⟨PE.weak (pe_callB hc hg hm hv ha.pa hn hdb he hpl) fun _ _ _ h => call_imp hi h⟩
theorem me_callTy {id : String} {g : Fn} {r : List V → Hp → VK → Prop} {x : Str} {p : Pos} (hc : CallR X (.type id) r) (hi : ImpC (gx X) g r) (hg : Gl X x) (hm : X.mg x = none) (hv : bootBuiltins x = some (.type id)) (ha : MA X (e :: es) fs) (hn : x ≠ "__name__" := by decide) (hdb : (x == ("__debug__" : Str)) = false := by decide)
    (he : starEach (e :: es) X.env = (false, eval e X.env) :: starEach es X.env := by rfl) (hpl : (backTo pos (starEach es X.env)).any (·.1) = false := by rfl) : ME X (.Call (.Name x p) (e :: es) [] pos) (eCall g fs) :=
  ⟨PE.weak (pe_callTy hc hg hm hv ha.pa hn hdb he hpl) fun _ _ _ h => call_imp hi h⟩
end
end ML

namespace ML
open PySem PySem.Spec PyProof.Rows L2

/-! ### arithmetic -/
def wideM (i j : Int) : Prop := i.natAbs.log2 + j.natAbs.log2 < 1000000
instance (i j : Int) : Decidable (wideM i j) := by unfold wideM; infer_instance
def wideD (j : Int) : Prop := j ≠ 0 ∧ j.natAbs.log2 < 9000
instance (j : Int) : Decidable (wideD j) := by unfold wideD; infer_instance
def gAdd : Op2
  | .int i, .int j, S => some (.int (i + j), S)
  | .str x, .str y, S => if x.length + y.length ≤ sizeLine then some (.str (x ++ y), S) else none
  | .tup x, .tup y, S => if x.length + y.length ≤ sizeLine then some (.tup (x ++ y), S) else none
  | .loc l, .loc m, S => match S[l]?, S[m]? with
    | some (.lst x), some (.lst y) => if x.length + y.length ≤ sizeLine then some (.loc S.length, S ++ [.lst (x ++ y)]) else none
    | _, _ => none
  | _, _, _ => none
def gSub : Op2
  | .int i, .int j, S => some (.int (i - j), S)
  | _, _, _ => none
def gMul : Op2
  | .int i, .int j, S => if wideM i j then some (.int (i * j), S) else none
  | .loc l, .int k, S => match S[l]? with
    | some (.lst x) => if -(2 ^ 63) ≤ k ∧ k < 2 ^ 63 ∧ x.length * k.toNat ≤ sizeLine then some (.loc S.length, S ++ [.lst (List.replicate k.toNat x).flatten]) else none
    | _ => none
  | .tup x, .int k, S => if x ≠ [] ∧ 2 ≤ k ∧ k ≤ 1000 ∧ x.length ≤ 1000 then some (.tup (List.replicate k.toNat x).flatten, S) else none
  | _, _, _ => none
def gFdiv : Op2
  | .int i, .int j, S => if wideD j then some (.int (i.fdiv j), S) else none
  | _, _, _ => none
def gMod : Op2
  | .int i, .int j, S => if j ≠ 0 then some (.int (i.fmod j), S) else none
  | _, _, _ => none
def gPow : Op2
  | .int i, .int j, S => if 0 ≤ j ∧ j ≤ 1000000 ∧ i.natAbs < 2 ^ 64 then some (.int (i ^ j.toNat), S) else none
  | _, _, _ => none
def gNeg : Op1
  | .int i, S => some (.int (-i), S)
  | _, _ => none
section
variable {X : Cx}
theorem op_fdivA : OpR X (binaryOp .FloorDiv) (rI (fun _ j => wideD j) fun i j => .int (i.fdiv j)) := opI fun _ _ _ _ _ _ _ hc q => floordiv_int hc.1 q (.inl (PyProof.noPylong_of_log2 hc.2))
variable {G : Gx}
theorem rI_of {C : Int → Int → Prop} {f : Int → Int → Int} {g : Op2} (hg : ∀ a b S d S', g a b S = some (d, S') → ∃ i j, a = .int i ∧ b = .int j ∧ C i j ∧ d = .int (f i j) ∧ S' = S) : Imp2 G g (rI C fun i j => .int (f i j)) := by
  rintro x y H Q ⟨ρ, S, d1, d2, d, S', hs, r1, r2, h, q⟩
  obtain ⟨i, j, rfl, rfl, hc, rfl, rfl⟩ := hg _ _ _ _ _ h
  exact ⟨i, j, rp_int r1, rp_int r2, hc, q ρ _ H (Step.refl _ _) hs (rp_of_int _)⟩
theorem rp_vs {ρ : List Lo} {H : Hp} {ds : List D} {v : V} (h : Rp G ρ H (.tup ds) v) : ∃ a vs, v = .ref a ∧ SqT G.K H a vs ∧ RpL G ρ H ds vs := by simpa only [Rp] using h
theorem rp_lc {ρ : List Lo} {H : Hp} {l : Nat} {v : V} (h : Rp G ρ H (.loc l) v) : ∃ a, ρ[l]? = some a ∧ v = .ref a.1 := by simpa only [Rp] using h
theorem RpL.nil_iff {ρ : List Lo} {H : Hp} {ds : List D} {vs : List V} (h : RpL G ρ H ds vs) : ds = [] ↔ vs = [] := by
  have := h.length
  constructor
  · intro e; subst e; exact List.eq_nil_of_length_eq_zero this
  · intro e; subst e; exact List.eq_nil_of_length_eq_zero this.symm
theorem RpL.rep {ρ : List Lo} {H : Hp} {ds : List D} {vs : List V} (h : RpL G ρ H ds vs) : ∀ n : Nat, RpL G ρ H (List.replicate n ds).flatten (List.replicate n vs).flatten
  | 0 => RpL.nil
  | n + 1 => by
    rw [List.replicate_succ, List.flatten_cons, List.replicate_succ, List.flatten_cons]
    exact h.append (RpL.rep h n)
def rStrAdd : R2 := fun x y H Q => ∃ i j, x = .str i ∧ y = .str j ∧ i.length + j.length ≤ sizeLine ∧ Q (.str (i ++ j)) H
def rAddAll (K : PySem.W.Frag) : R2 := fun x y H Q => rI0 (fun i j => .int (i + j)) x y H Q ∨ (rStrAdd x y H Q ∨ (rCatA K x y H Q ∨ rCat x y H Q))
theorem op_addAll : OpR X (binaryOp .Add) (rAddAll X.K) := op_add.or (op_add_str.or (op_catA.or op_cat))
theorem imp_add : Imp2 G gAdd (rAddAll G.K) := by
  rintro x y H Q ⟨ρ, S, d1, d2, d, S', hs, r1, r2, h, q⟩
  unfold gAdd at h
  split at h
  · cases h; exact .inl ⟨_, _, rp_int r1, rp_int r2, q ρ _ H (Step.refl _ _) hs (rp_of_int _)⟩
  · split at h
    · cases h; rename_i hz
      exact .inr (.inl ⟨_, _, rp_str r1, rp_str r2, hz, q ρ _ H (Step.refl _ _) hs (rp_of_str _)⟩)
    · cases h
  · split at h
    · cases h; rename_i hz
      obtain ⟨a, vs, rfl, q1, l1⟩ := rp_vs r1
      obtain ⟨b, ws, rfl, q2, l2⟩ := rp_vs r2
      refine .inr (.inr (.inl ⟨a, b, vs, ws, rfl, rfl, q1, q2, by rw [l1.length, l2.length]; exact hz, fun e => ?_, fun e1 e2 => ?_, fun e1 e2 p hp => ?_⟩))
      · have := l1.nil_iff.mpr e
        subst this
        exact q ρ _ H (Step.refl _ _) hs r2
      · have := l2.nil_iff.mpr e2
        subst this
        rw [List.append_nil] at q
        exact q ρ _ H (Step.refl _ _) hs r1
      · exact q ρ _ _ (Step.untracked hp) (hs.untracked hp) (rp_tup hp (l1.append l2))
    · cases h
  · rename_i l m S
    split at h
    · rename_i x1 y1 e1 e2
      split at h
      · cases h; rename_i hz
        obtain ⟨a, h1, rfl⟩ := rp_lc r1
        obtain ⟨b, h2, rfl⟩ := rp_lc r2
        obtain ⟨vs, q1, l1⟩ := hs.obj _ _ _ e1 h1
        obtain ⟨ws, q2, l2⟩ := hs.obj _ _ _ e2 h2
        refine .inr (.inr (.inr ⟨a.1, b.1, vs, ws, rfl, rfl, q1, q2, by rw [l1.length, l2.length]; exact hz, fun p hp => ?_⟩))
        exact q _ _ _ (Step.newloc hp) (hs.newL hp (l1.append l2)) (rp_loc hs)
      · cases h
    · cases h
  · cases h
theorem imp_sub : Imp2 G gSub (rI0 fun i j => .int (i - j)) := by
  rintro x y H Q ⟨ρ, S, d1, d2, d, S', hs, r1, r2, h, q⟩
  unfold gSub at h
  split at h
  · cases h; exact ⟨_, _, rp_int r1, rp_int r2, q ρ _ H (Step.refl _ _) hs (rp_of_int _)⟩
  · cases h
def rMulAll (K : PySem.W.Frag) : R2 := fun x y H Q => rI CMulW (fun i j => .int (i * j)) x y H Q ∨ (rRep x y H Q ∨ rRepT K x y H Q)
theorem op_mulAll : OpR X (binaryOp .Mult) (rMulAll X.K) := op_mulW.or (op_rep.or op_repT)
theorem imp_mul : Imp2 G gMul (rMulAll G.K) := by
  rintro x y H Q ⟨ρ, S, d1, d2, d, S', hs, r1, r2, h, q⟩
  unfold gMul at h
  split at h
  · split at h
    · cases h; rename_i hz
      exact .inl ⟨_, _, rp_int r1, rp_int r2, hz, q ρ _ H (Step.refl _ _) hs (rp_of_int _)⟩
    · cases h
  · split at h
    · rename_i x1 e1
      split at h
      · cases h; rename_i hz
        obtain ⟨a, h1, rfl⟩ := rp_lc r1
        obtain ⟨vs, q1, l1⟩ := hs.obj _ _ _ e1 h1
        have e := rp_int r2
        subst e
        refine .inr (.inl ⟨a.1, _, vs, rfl, rfl, q1, hz.1, hz.2.1, by rw [l1.length]; exact hz.2.2, fun p hp => ?_⟩)
        exact q _ _ _ (Step.newloc hp) (hs.newL hp (l1.rep _)) (rp_loc hs)
      · cases h
    · cases h
  · split at h
    · cases h; rename_i hz
      obtain ⟨a, vs, rfl, q1, l1⟩ := rp_vs r1
      have e := rp_int r2
      subst e
      refine .inr (.inr ⟨a, _, vs, rfl, rfl, q1, fun e => hz.1 (l1.nil_iff.mpr e), hz.2.1, hz.2.2.1, by rw [l1.length]; exact hz.2.2.2, fun p hp => ?_⟩)
      exact q ρ _ _ (Step.untracked hp) (hs.untracked hp) (rp_tup hp (l1.rep _))
    · cases h
  · cases h
theorem imp_fdiv : Imp2 G gFdiv (rI (fun _ j => wideD j) fun i j => .int (i.fdiv j)) := rI_of fun a b S d S' h => by
  unfold gFdiv at h
  split at h
  · split at h
    · cases h; exact ⟨_, _, rfl, rfl, by assumption, rfl, rfl⟩
    · cases h
  · cases h
theorem imp_mod : Imp2 G gMod (rI (fun _ j => j ≠ 0) fun i j => .int (i.fmod j)) := rI_of fun a b S d S' h => by
  unfold gMod at h
  split at h
  · split at h
    · cases h; exact ⟨_, _, rfl, rfl, by assumption, rfl, rfl⟩
    · cases h
  · cases h
theorem imp_pow : Imp2 G gPow (rI CPow fun i j => .int (i ^ j.toNat)) := rI_of fun a b S d S' h => by
  unfold gPow at h
  split at h
  · split at h
    · cases h; exact ⟨_, _, rfl, rfl, by assumption, rfl, rfl⟩
    · cases h
  · cases h
theorem imp_neg (x : V) (H : Hp) (Q : VK) : rU1 G gNeg x H Q → rU (fun i => .int (-i)) x H Q := by
  rintro ⟨ρ, S, d1, d, S', hs, r1, h, q⟩
  unfold gNeg at h
  split at h
  · cases h; exact ⟨_, rp_int r1, q ρ _ H (Step.refl _ _) hs (rp_of_int _)⟩
  · cases h
variable {a b c : Expr} {fa fb fc : Den} {pos : Pos}
theorem me_add (ha : ME X a fa) (hb : ME X b fb) : ME X (.BinOp a .Add b pos) (eOp gAdd fa fb) := me_op op_addAll imp_add ha hb
theorem me_sub (ha : ME X a fa) (hb : ME X b fb) : ME X (.BinOp a .Sub b pos) (eOp gSub fa fb) := me_op op_sub imp_sub ha hb
theorem me_mul (ha : ME X a fa) (hb : ME X b fb) : ME X (.BinOp a .Mult b pos) (eOp gMul fa fb) := me_op op_mulAll imp_mul ha hb
theorem me_fdiv (ha : ME X a fa) (hb : ME X b fb) : ME X (.BinOp a .FloorDiv b pos) (eOp gFdiv fa fb) := me_op op_fdivA imp_fdiv ha hb
theorem me_mod (ha : ME X a fa) (hb : ME X b fb) : ME X (.BinOp a .Mod b pos) (eOp gMod fa fb) := me_op op_modN imp_mod ha hb
theorem me_pow (ha : ME X a fa) (hb : ME X b fb) : ME X (.BinOp a .Pow b pos) (eOp gPow fa fb) := me_op op_pow imp_pow ha hb
theorem me_neg (ha : ME X a fa) : ME X (.UnaryOp .USub a pos) (eUn gNeg fa) := me_un un_neg imp_neg ha

/-! ### comparisons -/
def gCmp (p : Int → Int → Bool) : Op2
  | .int i, .int j, S => some (.bl (p i j), S)
  | _, _, _ => none
theorem imp_cmp {p : Int → Int → Bool} : Imp2 G (gCmp p) (rI0 fun i j => .bl (p i j)) := by
  rintro x y H Q ⟨ρ, S, d1, d2, d, S', hs, r1, r2, h, q⟩
  unfold gCmp at h
  split at h
  · cases h; exact ⟨_, _, rp_int r1, rp_int r2, q ρ _ H (Step.refl _ _) hs (rp_of_bl _)⟩
  · cases h
abbrev cLt : Op2 := gCmp fun i j => decide (i < j)
abbrev cLe : Op2 := gCmp fun i j => decide (i ≤ j)
abbrev cGt : Op2 := gCmp fun i j => decide (j < i)
abbrev cGe : Op2 := gCmp fun i j => decide (j ≤ i)
/-! data without places -/
mutual
def toP : D → Option PyData
  | .non => some .none
  | .bl b => some (.bool b)
  | .int i => some (.int i)
  | .str x => some (.str x)
  | .tup ds => (toPL ds).map .tuple
  | _ => none
def toPL : List D → Option (List PyData)
  | [] => some []
  | d :: ds => (toP d).bind fun p => (toPL ds).map fun r => p :: r
end
mutual
theorem toP_ok {ρ : List Lo} {H : Hp} : ∀ {d : D} {v : V} {p : PyData}, toP d = some p → Rp G ρ H d v → Dp G.K H v p
  | .non, v, p, e, r => by simp only [toP] at e; simp only [Rp] at r; subst r; cases e; exact .non
  | .bl b, v, p, e, r => by simp only [toP] at e; simp only [Rp] at r; subst r; cases e; exact .bl b
  | .int i, v, p, e, r => by simp only [toP] at e; simp only [Rp] at r; subst r; cases e; exact .int i
  | .str x, v, p, e, r => by simp only [toP] at e; simp only [Rp] at r; subst r; cases e; exact .str x
  | .tup ds, v, p, e, r => by
    simp only [toP] at e
    obtain ⟨ps, h1, h2⟩ := Option.map_eq_some_iff.mp e
    subst h2
    simp only [Rp] at r
    obtain ⟨a, vs, rfl, q, l⟩ := r
    exact .tup q (toPL_ok h1 l)
  | .loc _, v, p, e, r => by simp [toP] at e
  | .ty _, v, p, e, r => by simp [toP] at e
  | .fn _, v, p, e, r => by simp [toP] at e
theorem toPL_ok {ρ : List Lo} {H : Hp} : ∀ {ds : List D} {vs : List V} {ps : List PyData}, toPL ds = some ps → RpL G ρ H ds vs → DpAll G.K H vs ps
  | [], vs, ps, e, r => by simp only [toPL] at e; simp only [RpL] at r; subst r; cases e; exact .nil
  | d :: ds, vs, ps, e, r => by
    simp only [toPL] at e
    obtain ⟨p, h1, e⟩ := Option.bind_eq_some_iff.mp e
    obtain ⟨r', h2, e⟩ := Option.map_eq_some_iff.mp e
    subst e
    simp only [RpL] at r
    obtain ⟨v, t, rfl, q, l⟩ := r
    exact .cons (toP_ok h1 q) (toPL_ok h2 l)
end
/-- .. and a list of such -/
def toPS (S : Sto) : D → Option PyData
  | .loc l => (lsAt S l).bind fun xs => (toPL xs).map .list
  | d => toP d
theorem toPS_ok {ρ : List Lo} {H : Hp} {S : Sto} (hs : SR G ρ H S) {d : D} {v : V} {p : PyData} (e : toPS S d = some p) (r : Rp G ρ H d v) : Dp G.K H v p := by
  cases d with
  | loc l =>
    simp only [toPS] at e
    obtain ⟨xs, h1, e⟩ := Option.bind_eq_some_iff.mp e
    obtain ⟨ps, h2, e⟩ := Option.map_eq_some_iff.mp e
    subst e
    obtain ⟨a, hr, rfl⟩ := rp_lc r
    obtain ⟨a', vs, hr', q, l⟩ := lsAt_of hs h1
    rw [hr] at hr'; cases hr'
    exact .lst q (toPL_ok h2 l)
  | _ => exact toP_ok (by simpa only [toPS] using e) r
def eqP (S : Sto) (a b : D) : Option Bool := (toPS S a).bind fun p => (toPS S b).bind fun q => if SeqAt.shaped p && SeqAt.shaped q then some (PyData.eqv p q) else none
def cEq : Op2 := fun a b S => (eqP S a b).map fun k => (.bl k, S)
def cNe : Op2 := fun a b S => (eqP S a b).map fun k => (.bl (!k), S)
theorem eqP_some {S : Sto} {a b : D} {k : Bool} (h : eqP S a b = some k) : ∃ p q, toPS S a = some p ∧ toPS S b = some q ∧ SeqAt.shaped p = true ∧ SeqAt.shaped q = true ∧ k = PyData.eqv p q := by
  obtain ⟨p, h1, h⟩ := Option.bind_eq_some_iff.mp h
  obtain ⟨q, h2, h⟩ := Option.bind_eq_some_iff.mp h
  split at h
  · rename_i hz
    cases h
    have := Bool.and_eq_true_iff.mp hz
    exact ⟨p, q, h1, h2, this.1, this.2, rfl⟩
  · cases h
theorem imp_eq : Imp2 G cEq (rEqD G.K) := by
  rintro x y H Q ⟨ρ, S, d1, d2, d, S', hs, r1, r2, h, q⟩
  obtain ⟨k, h1, h2⟩ := Option.map_eq_some_iff.mp h
  cases h2
  obtain ⟨p1, p2, e1, e2, s1, s2, rfl⟩ := eqP_some h1
  exact ⟨p1, p2, toPS_ok hs e1 r1, toPS_ok hs e2 r2, s1, s2, q ρ _ H (Step.refl _ _) hs (rp_of_bl _)⟩
theorem imp_ne : Imp2 G cNe (rNeD G.K) := by
  rintro x y H Q ⟨ρ, S, d1, d2, d, S', hs, r1, r2, h, q⟩
  obtain ⟨k, h1, h2⟩ := Option.map_eq_some_iff.mp h
  cases h2
  obtain ⟨p1, p2, e1, e2, s1, s2, rfl⟩ := eqP_some h1
  exact ⟨p1, p2, toPS_ok hs e1 r1, toPS_ok hs e2 r2, s1, s2, q ρ _ H (Step.refl _ _) hs (rp_of_bl _)⟩
/-! is -/
def D.isN : D → Bool
  | .non => true
  | _ => false
theorem isN_ok {ρ : List Lo} {H : Hp} {d : D} {v : V} (r : Rp G ρ H d v) : decide (v = .non) = d.isN ∨ ∃ x, d = .fn x := by
  cases d with
  | fn x => exact .inr ⟨x, rfl⟩
  | tup ds => obtain ⟨a, vs, rfl, _⟩ := rp_vs r; exact .inl rfl
  | loc l => obtain ⟨a, _, rfl⟩ := rp_lc r; exact .inl rfl
  | _ => simp only [Rp] at r; subst r; exact .inl rfl
def cIs : Op2
  | .fn _, _, _ => none
  | d, .non, S => some (.bl d.isN, S)
  | .bl a, .bl b, S => some (.bl (decide (a = b)), S)
  | _, _, _ => none
def cIsNot : Op2
  | .fn _, _, _ => none
  | d, .non, S => some (.bl (!d.isN), S)
  | .bl a, .bl b, S => some (.bl (!decide (a = b)), S)
  | _, _, _ => none
def rIsA : R2 := fun x y H Q => (y = .non ∧ Q (.bl (decide (x = .non))) H) ∨ rIsB x y H Q
def rIsNotA : R2 := fun x y H Q => (y = .non ∧ Q (.bl (!decide (x = .non))) H) ∨ rNotB x y H Q
theorem op_isA : OpR X (compareOp .Is) rIsA := op_isN.or op_isBl
theorem op_isNotA : OpR X (compareOp .IsNot) rIsNotA := op_notN.or op_notBl
theorem imp_is : Imp2 G cIs rIsA := by
  rintro x y H Q ⟨ρ, S, d1, d2, d, S', hs, r1, r2, h, q⟩
  unfold cIs at h
  split at h
  · cases h
  · rename_i hn
    cases h
    rcases isN_ok r1 with e | ⟨x, e⟩
    · exact .inl ⟨rp_non r2, by rw [e]; exact q ρ _ H (Step.refl _ _) hs (rp_of_bl _)⟩
    · exact absurd e (hn x)
  · cases h
    exact .inr ⟨_, _, rp_bl r1, rp_bl r2, q ρ _ H (Step.refl _ _) hs (rp_of_bl _)⟩
  · cases h
theorem imp_isNot : Imp2 G cIsNot rIsNotA := by
  rintro x y H Q ⟨ρ, S, d1, d2, d, S', hs, r1, r2, h, q⟩
  unfold cIsNot at h
  split at h
  · cases h
  · rename_i hn
    cases h
    rcases isN_ok r1 with e | ⟨x, e⟩
    · exact .inl ⟨rp_non r2, by rw [e]; exact q ρ _ H (Step.refl _ _) hs (rp_of_bl _)⟩
    · exact absurd e (hn x)
  · cases h
    exact .inr ⟨_, _, rp_bl r1, rp_bl r2, q ρ _ H (Step.refl _ _) hs (rp_of_bl _)⟩
  · cases h
end
end ML

namespace ML
open PySem PySem.Spec PyProof.Rows L2

/-! ### lists that nobody else holds -/
/-- e makes a new list of the told items, at no place of the store -/
def tU (G : Gx) (f : ADen) : TE := fun σ H Q => ∃ ρ env S ds S', EnR G ρ H env σ ∧ SR G ρ H S ∧ f env S = some (ds, S') ∧
  ∀ ρ' p vs H', Step ρ H ρ' H' → SR G ρ' H' S' → RpL G ρ' H' ds vs → H' p = some (.lst vs) → H p = none → (p, true) ∉ ρ' → Q (.ref p) H'
structure MU (X : Cx) (e : Expr) (f : ADen) : Prop where
  pu : PE X e (tU (gx X) f)
/-- the new list gets a place -/
def eOwn (f : ADen) : Den := fun env S => (f env S).bind fun p => some (.loc p.2.length, p.2 ++ [.lst p.1])
/-- what is done with its items at once -/
def eU (g : Fn) (f : ADen) : Den := fun env S => (f env S).bind fun p => g p.1 p.2
section
variable {G : Gx} {ρ ρ' : List Lo} {H H' : Hp} {S S' : Sto}
theorem Step.free (s : Step ρ H ρ' H') (hs : SR G ρ' H' S') {p : Addr} (hp : H' p = none) : H p = none := by
  cases q : H p with
  | none => rfl
  | some o =>
    by_cases m : (p, true) ∈ ρ
    · obtain ⟨u, e⟩ := hs.there (s.pre.subset m)
      rw [hp] at e; cases e
    · rw [s.oth p o q m] at hp; cases hp
theorem Step.keepU (s : Step ρ H ρ' H') {p : Addr} {o : HO} (h : H p = some o) (n : (p, true) ∉ ρ) : H' p = some o ∧ (p, true) ∉ ρ' :=
  ⟨s.oth p o h n, fun m => by
    rcases s.new p m with z | z
    · exact n z
    · rw [z] at h; cases h⟩
theorem tU.bind {f : ADen} {σ : L2.St} {env : En} {S S1 : Sto} {ds : List D} {R : VK} (he : EnR G ρ H env σ) (hs : SR G ρ H S) (h : f env S = some (ds, S1))
    (k : ∀ ρ' p vs H', Step ρ H ρ' H' → EnR G ρ' H' env σ → SR G ρ' H' S1 → RpL G ρ' H' ds vs → H' p = some (.lst vs) → H p = none → (p, true) ∉ ρ' → R (.ref p) H') : tU G f σ H R :=
  ⟨ρ, env, S, ds, S1, he, hs, h, fun ρ' p vs H' x y z a b c => k ρ' p vs H' x (he.step x) y z a b c⟩
theorem SR.ownL (h : SR G ρ H S) {p : Addr} {ds : List D} {vs : List V} (hp : (p, true) ∉ ρ) (e : H p = some (.lst vs)) (r : RpL G ρ H ds vs) : SR G (ρ ++ [(p, true)]) H (S ++ [.lst ds]) :=
  h.own hp rfl ⟨vs, e, RpL.mon Mon.ext r⟩
theorem Step.take (s : Step ρ H ρ' H') {p : Addr} (hp : H p = none) : Step ρ H (ρ' ++ [(p, true)]) H' :=
  ⟨⟨s.pre.trans (List.prefix_append _ _), s.tup, s.frz⟩, fun a ha => by
    rcases List.mem_append.mp ha with z | z
    · exact s.new a z
    · have e : a = p := by simpa using z
      exact .inr (e ▸ hp), s.oth⟩
end
section
variable {X : Cx} {e a b : Expr} {es : List Expr} {fe fa fb : Den} {fs fu : ADen} {pos : Pos}
theorem me_own (h : MU X e fu) : ME X e (eOwn fu) := by
  refine ⟨PE.weak h.pu fun σ H Q h => ?_⟩
  obtain ⟨ρ, env, S, d, S', he, hs, hf, q⟩ := h
  obtain ⟨x, S1, h1, hf⟩ := bind2 hf
  cases hf
  exact tU.bind he hs h1 fun ρ1 p vs H1 st1 he1 sr1 r1 e1 f1 n1 => q _ _ _ (st1.take f1) (sr1.ownL n1 e1 r1) (rp_loc sr1)
def uLst (f : ADen) : ADen := fun env S => (f env S).bind fun p => if p.1.length ≤ sizeLine then some p else none
theorem mu_lst (h : MA X es fs) : MU X (.List es pos) (uLst fs) := by
  refine ⟨PE.weak (pe_lst h.pa) fun σ H Q h => ?_⟩
  obtain ⟨ρ, env, S, d, S', he, hs, hf, q⟩ := h
  obtain ⟨x, S1, h1, hf⟩ := bind2 hf
  split at hf
  · cases hf
    rename_i hz
    refine tA.bind he hs h1 fun ρ1 vs H1 st1 he1 sr1 r1 => ⟨by rw [r1.length]; exact hz, fun p hp => ?_⟩
    exact q ρ1 p vs _ (st1.trans (Step.untracked hp)) (sr1.untracked hp) (r1.step (Step.untracked hp)) upd_same (st1.free sr1 hp) (sr1.fresh hp)
  · cases hf

/-! ### places in lists and tuples -/
def gIx : Op2
  | .tup xs, .int i, S => (atI xs i).map fun d => (d, S)
  | .loc l, .int i, S => (lsAt S l).bind fun xs => (atI xs i).map fun d => (d, S)
  | .str z, .int i, S => if z.length ≤ sizeLine then (atI z.cps.toList i).map fun c => (.str ⟨#[c]⟩, S) else none
  | _, _, _ => none
theorem atI_L {G : Gx} {ρ : List Lo} {H : Hp} {ds : List D} {vs : List V} {i : Int} {d : D} (r : RpL G ρ H ds vs) (e : atI ds i = some d) : ∃ v, atI vs i = some v ∧ Rp G ρ H d v := by
  unfold atI at e ⊢
  obtain ⟨j, h1, h2⟩ := Option.bind_eq_some_iff.mp e
  obtain ⟨v, h3, h4⟩ := r.get h2
  exact ⟨v, by rw [r.length, h1]; exact h3, h4⟩
theorem imp_ix {G : Gx} : Imp2 G gIx (rIx G.K) := by
  rintro x y H Q ⟨ρ, S, d1, d2, d, S', hs, r1, r2, h, q⟩
  unfold gIx at h
  split at h
  · obtain ⟨z, h1, h2⟩ := Option.map_eq_some_iff.mp h
    cases h2
    obtain ⟨a, vs, rfl, q1, l1⟩ := rp_vs r1
    obtain ⟨v, e1, rv⟩ := atI_L l1 h1
    exact .inr (.inl ⟨a, vs, _, v, rfl, rp_int r2, q1, e1, q ρ v H (Step.refl _ _) hs rv⟩)
  · obtain ⟨xs, h0, h⟩ := Option.bind_eq_some_iff.mp h
    obtain ⟨z, h1, h2⟩ := Option.map_eq_some_iff.mp h
    cases h2
    obtain ⟨a, hr, rfl⟩ := rp_lc r1
    obtain ⟨a', vs, hr', q1, l1⟩ := lsAt_of hs h0
    rw [hr] at hr'; cases hr'
    obtain ⟨v, e1, rv⟩ := atI_L l1 h1
    exact .inl ⟨a.1, vs, _, v, rfl, rp_int r2, q1, e1, q ρ v H (Step.refl _ _) hs rv⟩
  · split at h
    · rename_i hz
      obtain ⟨z, h1, h2⟩ := Option.map_eq_some_iff.mp h
      cases h2
      exact .inr (.inr ⟨_, _, z, rp_str r1, rp_int r2, hz, h1, q ρ _ H (Step.refl _ _) hs (rp_of_str _)⟩)
    · cases h
  · cases h
theorem me_ix (ha : ME X a fa) (hb : ME X b fb) (hs : PlainIx b := by intro _ _; rfl) : ME X (.Subscript a b pos) (eOp gIx fa fb) :=
  ⟨PE.weak (pe_ix ix_seq ha.pe hb.pe hs) fun _ _ _ h => bin_imp imp_ix h⟩
/-- [..][i] -/
def eUIx (f : ADen) (g : Den) : Den := fun env S => (f env S).bind fun p => (g env p.2).bind fun q => match q.1 with
  | .int i => (atI p.1 i).map fun d => (d, q.2)
  | _ => none
theorem me_uix (ha : MU X a fu) (hb : ME X b fb) (hs : PlainIx b := by intro _ _; rfl) : ME X (.Subscript a b pos) (eUIx fu fb) := by
  refine ⟨PE.weak (pe_ix ix_seq ha.pu hb.pe hs) fun σ H Q h => ?_⟩
  obtain ⟨ρ, env, S, d, S', he, hs, hf, q⟩ := h
  obtain ⟨x, S1, h1, hf⟩ := bind2 hf
  obtain ⟨y, S2, h2, hf⟩ := bind2 hf
  refine tU.bind he hs h1 fun ρ1 p vs H1 st1 he1 sr1 r1 e1 f1 n1 => ?_
  refine tE.bind he1 sr1 h2 fun ρ2 v2 H2 st2 he2 sr2 r2 => ?_
  cases y with
  | int i =>
    obtain ⟨z, h3, h4⟩ := Option.map_eq_some_iff.mp hf
    cases h4
    obtain ⟨v, e3, rv⟩ := atI_L r1 h3
    exact .inl ⟨p, vs, i, v, rfl, rp_int r2, .inl (.inl (st2.keepU e1 n1).1), e3, q ρ2 v H2 (st1.trans st2) sr2 (rv.step st2)⟩
  | _ => cases hf

/-! ### slices -/
abbrev ODen := En → Sto → Option (Option Int × Sto)
def tO (G : Gx) (f : ODen) : TO := fun σ H Q => ∃ ρ env S o S', EnR G ρ H env σ ∧ SR G ρ H S ∧ f env S = some (o, S') ∧ ∀ ρ' H', Step ρ H ρ' H' → SR G ρ' H' S' → Q o H'
structure MO (X : Cx) (e : Option Expr) (f : ODen) : Prop where
  po : PO X e (tO (gx X) f)
theorem PO.weak {X : Cx} {e : Option Expr} {t t' : TO} (h : PO X e t) (hw : ∀ σ H Q, t' σ H Q → t σ H Q) : PO X e t' := ⟨fun pins s σ H Q I q => h.run pins s σ H Q I (hw σ H Q q)⟩
def oNone : ODen := fun _ S => some (none, S)
def oSome (f : Den) : ODen := fun env S => (f env S).bind fun p => match p.1 with
  | .int i => some (some i, p.2)
  | _ => none
theorem mo_none : MO X none oNone := ⟨PO.weak po_none fun σ H Q h => by
  obtain ⟨ρ, env, S, d, S', he, hs, hf, q⟩ := h
  cases hf
  exact q ρ H (Step.refl _ _) hs⟩
theorem mo_some (ha : ME X a fa) : MO X (some a) (oSome fa) := ⟨PO.weak (po_some ha.pe) fun σ H Q h => by
  obtain ⟨ρ, env, S, d, S', he, hs, hf, q⟩ := h
  obtain ⟨x, S1, h1, hf⟩ := bind2 hf
  cases x with
  | int i => cases hf; exact tE.bind he hs h1 fun ρ1 v1 H1 st1 he1 sr1 r1 => ⟨i, rp_int r1, q ρ1 H1 st1 sr1⟩
  | _ => cases hf⟩
/-- xs[lo:hi] -/
def cutD {α : Type} (xs : List α) (lo hi : Option Int) : List α := (xs.drop (HT.sIx xs.length 0 lo)).take (HT.sIx xs.length xs.length hi - HT.sIx xs.length 0 lo)
theorem cut_L {G : Gx} {ρ : List Lo} {H : Hp} {ds : List D} {vs : List V} {lo hi : Option Int} (r : RpL G ρ H ds vs) : RpL G ρ H (cutD ds lo hi) (cutV vs lo hi) := by
  unfold cutD cutV
  rw [r.length]
  exact RpL.take _ (RpL.drop _ r)
variable {lo hi : Option Expr} {fl fh : ODen} {p2 : Pos}
theorem tO.bind {G : Gx} {f : ODen} {σ : L2.St} {H : Hp} {ρ : List Lo} {env : En} {S S1 : Sto} {b : Option Int} {R : Option Int → Hp → Prop} (he : EnR G ρ H env σ) (hs : SR G ρ H S) (h : f env S = some (b, S1))
    (k : ∀ ρ' H', Step ρ H ρ' H' → EnR G ρ' H' env σ → SR G ρ' H' S1 → R b H') : tO G f σ H R :=
  ⟨ρ, env, S, b, S1, he, hs, h, fun ρ' H' x y => k ρ' H' x (he.step x) y⟩
/-- xs[::-1] -/
def uRev (f : Den) : ADen := fun env S => (f env S).bind fun p => match p.1 with
  | .loc m => (lsAt p.2 m).map fun xs => (xs.reverse, p.2)
  | _ => none
end
end ML

namespace ML
open PySem PySem.Spec PyProof.Rows L2

/-! ### methods of lists -/
abbrev Mt := D → List D → Sto → Option (D × Sto)
def rM (G : Gx) (g : Mt) : V → List V → Hp → VK → Prop := fun x xs H Q => ∃ ρ S d ds d' S', SR G ρ H S ∧ Rp G ρ H d x ∧ RpL G ρ H ds xs ∧ g d ds S = some (d', S') ∧ ∀ ρ' v H', Step ρ H ρ' H' → SR G ρ' H' S' → Rp G ρ' H' d' v → Q v H'
def isLs (S : Sto) : D → Bool
  | .loc l => (lsAt S l).isSome
  | _ => false
def eMt (g : Mt) (f : Den) (h : ADen) : Den := fun env S => (f env S).bind fun p => if isLs p.2 p.1 = true then (h env p.2).bind fun q => g p.1 q.1 q.2 else none
/-- the list at l becomes f of its items -/
def mAppend : Mt
  | .loc l, [d], S => match S[l]? with
    | some (.lst xs) => if xs.length < sizeLine then some (.non, S.set l (.lst (xs ++ [d]))) else none
    | _ => none
  | _, _, _ => none
section
variable {G : Gx} {ρ : List Lo} {H : Hp} {S : Sto}
theorem SR.lst (hs : SR G ρ H S) {l : Nat} {xs : List D} {a : Lo} (e : S[l]? = some (.lst xs)) (r : ρ[l]? = some a) : a.2 = true ∧ ∃ vs, H a.1 = some (.lst vs) ∧ RpL G ρ H xs vs := by
  exact ⟨(hs.mu l _ a e r).symm, hs.obj l _ a e r⟩
theorem SR.putL (hs : SR G ρ H S) {l : Nat} {xs ys : List D} {a : Lo} {vs us : List V} (e : S[l]? = some (.lst xs)) (r : ρ[l]? = some a) (hv : H a.1 = some (.lst vs)) (hu : RpL G ρ H ys us) :
    SR G ρ (upd H a.1 (.lst us)) (S.set l (.lst ys)) ∧ Step ρ H ρ (upd H a.1 (.lst us)) := by
  have m := (hs.mu l _ a e r).symm
  have r' : ρ[l]? = some (a.1, true) := by rw [r]; exact congrArg some (Prod.ext rfl m)
  have st : Step ρ H ρ (upd H a.1 (.lst us)) := Step.write (List.mem_of_getElem? r') hv (fun _ z => nomatch z) fun _ _ z => nomatch z
  exact ⟨hs.write r' hv (fun _ z => nomatch z) (fun _ _ z => nomatch z) rfl ⟨us, upd_same, hu.step st⟩, st⟩
theorem imp_append (x : V) (xs : List V) (H : Hp) (Q : VK) : rM G mAppend x xs H Q → rAppend x xs H Q := by
  rintro ⟨ρ, S, d, ds, d', S', hs, r1, r2, h, q⟩
  unfold mAppend at h
  split at h
  · split at h
    · rename_i ys e1
      split at h
      · cases h; rename_i hz
        obtain ⟨a, hr, rfl⟩ := rp_lc r1
        obtain ⟨_, vs, hv, l1⟩ := hs.lst e1 hr
        simp only [RpL] at r2
        obtain ⟨v, t, rfl, rv, rfl⟩ := r2
        obtain ⟨p1, p2⟩ := hs.putL e1 hr hv (l1.append (RpL.one rv))
        exact ⟨a.1, vs, v, rfl, rfl, hv, by rw [l1.length]; exact hz, q ρ _ _ p2 p1 rp_of_non⟩
      · cases h
    · cases h
  · cases h
end
theorem isLs_ty {G : Gx} {ρ : List Lo} {H : Hp} {S : Sto} (hs : SR G ρ H S) {d : D} {v : V} (h : isLs S d = true) (r : Rp G ρ H d v) : tyV G.K "list" v H := by
  cases d with
  | loc l =>
    obtain ⟨xs, e⟩ := Option.isSome_iff_exists.mp (show (lsAt S l).isSome = true from h)
    obtain ⟨a, hr, rfl⟩ := rp_lc r
    obtain ⟨a', vs, hr', q1, l1⟩ := lsAt_of hs e
    rw [hr] at hr'; cases hr'
    exact .inl ⟨rfl, vs, q1⟩
  | _ => cases h
section
variable {X : Cx} {o e : Expr} {es : List Expr} {fo : Den} {fs : ADen} {id : String} {name : Str} {apos cpos : Pos} {g : Mt} {r : V → List V → Hp → VK → Prop}
theorem bm_imp {G : Gx} (hi : ∀ x xs H Q, rM G g x xs H Q → r x xs H Q) {σ : L2.St} {H : Hp} {Q : VK} (h : tE G (eMt g fo fs) σ H Q) : tBM G.K "list" r (tE G fo) (tA G fs) σ H Q := by
  obtain ⟨ρ, env, S, d, S', he, hs, hf, q⟩ := h
  obtain ⟨x, S1, h1, hf⟩ := bind2 hf
  split at hf
  · rename_i hl
    obtain ⟨y, S2, h2, hf⟩ := bind2 hf
    refine tE.bind he hs h1 fun ρ1 v1 H1 st1 he1 sr1 r1 => ⟨isLs_ty sr1 hl r1, ?_⟩
    refine tA.bind he1 sr1 h2 fun ρ2 vs H2 st2 he2 sr2 r2 => ?_
    exact hi _ _ _ _ ⟨ρ2, S2, x, y, d, S', sr2, r1.step st2, r2, hf, fun ρ' v H' st sr rr => q ρ' v H' ((st1.trans st2).trans st) sr rr⟩
  · cases hf
theorem me_bm (slot : Slot "list" name id) (hty : typeOf (.builtin id) = pure (.type "method_descriptor")) (hm : MtR X id r) (hi : ∀ x xs H Q, rM (gx X) g x xs H Q → r x xs H Q) (ho : ME X o fo) (ha : MA X (e :: es) fs)
    (hbase : attributeBase o name X.env (eval o X.env) = eval o X.env := by rfl)
    (hfew : ((backTo cpos (starEach (e :: es) X.env)).all (fun x => !x.1) && (backToKw cpos (keywordEach [] X.env)).all (fun x => x.1.isSome)
      && decide ((e :: es).length + ([] : List Keyword).length + (if ([] : List Keyword).isEmpty then 0 else 1) < 30)) = true := by rfl)
    (hline : (apos.endLine == cpos.line) = true := by rfl) (hs : starEach (e :: es) X.env = (false, eval e X.env) :: starEach es X.env := by rfl) (hplain : (backTo cpos (starEach es X.env)).any (·.1) = false := by rfl) :
    ME X (.Call (.Attribute o name apos) (e :: es) [] cpos) (eMt g fo fs) :=
  ⟨PE.weak (pe_bm PySem.F.plainAttrs_list slot hty hm ho.pe ha.pa hbase hfew hline hs hplain) fun _ _ _ h => bm_imp hi h⟩
end

/-! ### built-ins -/
def bLen : Fn
  | [.str x], S => if x.length ≤ sizeLine then some (.int x.length, S) else none
  | [.tup xs], S => some (.int xs.length, S)
  | [.loc l], S => (lsAt S l).map fun xs => (.int xs.length, S)
  | _, _ => none
def bAbs : Fn
  | [.int i], S => some (.int (if i < 0 then -i else i), S)
  | _, _ => none
def bInt : Fn
  | [.int i], S => some (.int i, S)
  | [.bl k], S => some (.int (if k then 1 else 0), S)
  | _, _ => none
def bMax : Fn
  | [.int i, .int j], S => some (.int (if j > i then j else i), S)
  | _, _ => none
def bMin : Fn
  | [.int i, .int j], S => some (.int (if j < i then j else i), S)
  | _, _ => none
def bTuple : Fn
  | [.tup xs], S => some (.tup xs, S)
  | [.loc l], S => (lsAt S l).map fun xs => (.tup xs, S)
  | _, _ => none
/-- the truths of a row -/
def bs? : List D → Option (List Bool)
  | [] => some []
  | .bl b :: r => (bs? r).map (b :: ·)
  | _ => none
def is? : List D → Option (List Int)
  | [] => some []
  | .int b :: r => (is? r).map (b :: ·)
  | _ => none
section
variable {G : Gx} {ρ : List Lo} {H : Hp} {S : Sto}
theorem bs_ok : ∀ {ds : List D} {vs : List V} {bs : List Bool}, bs? ds = some bs → RpL G ρ H ds vs → vs = bs.map V.bl
  | [], vs, bs, e, r => by cases e; simp only [RpL] at r; subst r; rfl
  | .bl b :: ds, vs, bs, e, r => by
    obtain ⟨c, h1, h2⟩ := Option.map_eq_some_iff.mp (show (bs? ds).map (b :: ·) = some bs from e)
    subst h2
    simp only [RpL] at r
    obtain ⟨v, t, rfl, rv, l⟩ := r
    rw [rp_bl rv, bs_ok h1 l] <;> rfl
  | .non :: _, _, _, e, _ => by cases e
  | .int _ :: _, _, _, e, _ => by cases e
  | .str _ :: _, _, _, e, _ => by cases e
  | .tup _ :: _, _, _, e, _ => by cases e
  | .loc _ :: _, _, _, e, _ => by cases e
  | .ty _ :: _, _, _, e, _ => by cases e
  | .fn _ :: _, _, _, e, _ => by cases e
theorem is_ok : ∀ {ds : List D} {vs : List V} {bs : List Int}, is? ds = some bs → RpL G ρ H ds vs → vs = bs.map V.int
  | [], vs, bs, e, r => by cases e; simp only [RpL] at r; subst r; rfl
  | .int b :: ds, vs, bs, e, r => by
    obtain ⟨c, h1, h2⟩ := Option.map_eq_some_iff.mp (show (is? ds).map (b :: ·) = some bs from e)
    subst h2
    simp only [RpL] at r
    obtain ⟨v, t, rfl, rv, l⟩ := r
    rw [rp_int rv, is_ok h1 l] <;> rfl
  | .non :: _, _, _, e, _ => by cases e
  | .bl _ :: _, _, _, e, _ => by cases e
  | .str _ :: _, _, _, e, _ => by cases e
  | .tup _ :: _, _, _, e, _ => by cases e
  | .loc _ :: _, _, _, e, _ => by cases e
  | .ty _ :: _, _, _, e, _ => by cases e
  | .fn _ :: _, _, _, e, _ => by cases e
theorem one_of {d : D} {vs : List V} (h : RpL G ρ H [d] vs) : ∃ v, vs = [v] ∧ Rp G ρ H d v := by
  simp only [RpL] at h
  obtain ⟨v, t, rfl, rv, rfl⟩ := h
  exact ⟨v, rfl, rv⟩
theorem two_of {d e : D} {vs : List V} (h : RpL G ρ H [d, e] vs) : ∃ v u, vs = [v, u] ∧ Rp G ρ H d v ∧ Rp G ρ H e u := by
  simp only [RpL] at h
  obtain ⟨v, t, rfl, rv, u, t2, rfl, ru, rfl⟩ := h
  exact ⟨v, u, rfl, rv, ru⟩
theorem imp_len : ImpC G bLen (fun xs H Q => ∃ x n, xs = [x] ∧ LenV G.K x H n ∧ Q (.int n) H) := by
  rintro xs H Q ⟨ρ, S, ds, d, S', hs, r, h, q⟩
  unfold bLen at h
  split at h
  · split at h
    · cases h; rename_i hz
      obtain ⟨v, rfl, rv⟩ := one_of r
      have := rp_str rv
      subst this
      exact ⟨_, _, rfl, ⟨hz, rfl⟩, q ρ _ H (Step.refl _ _) hs (rp_of_int _)⟩
    · cases h
  · cases h
    obtain ⟨v, rfl, rv⟩ := one_of r
    obtain ⟨a, vs, rfl, q1, l1⟩ := rp_vs rv
    exact ⟨_, _, rfl, .inr ⟨vs, q1, l1.length.symm⟩, q ρ _ H (Step.refl _ _) hs (rp_of_int _)⟩
  · obtain ⟨ys, h1, h2⟩ := Option.map_eq_some_iff.mp h
    cases h2
    obtain ⟨v, rfl, rv⟩ := one_of r
    obtain ⟨a, hr, rfl⟩ := rp_lc rv
    obtain ⟨a', vs, hr', q1, l1⟩ := lsAt_of hs h1
    rw [hr] at hr'; cases hr'
    exact ⟨_, _, rfl, .inl ⟨vs, q1, l1.length.symm⟩, q ρ _ H (Step.refl _ _) hs (rp_of_int _)⟩
  · cases h
theorem imp_abs : ImpC G bAbs (fun xs H Q => ∃ i, xs = [.int i] ∧ Q (.int (if i < 0 then -i else i)) H) := by
  rintro xs H Q ⟨ρ, S, ds, d, S', hs, r, h, q⟩
  unfold bAbs at h
  split at h
  · cases h
    obtain ⟨v, rfl, rv⟩ := one_of r
    exact ⟨_, by rw [rp_int rv], q ρ _ H (Step.refl _ _) hs (rp_of_int _)⟩
  · cases h
theorem imp_int : ImpC G bInt (fun xs H Q => (∃ i, xs = [.int i] ∧ Q (.int i) H) ∨ ∃ k, xs = [.bl k] ∧ Q (.int (if k then 1 else 0)) H) := by
  rintro xs H Q ⟨ρ, S, ds, d, S', hs, r, h, q⟩
  unfold bInt at h
  split at h
  · cases h
    obtain ⟨v, rfl, rv⟩ := one_of r
    exact .inl ⟨_, by rw [rp_int rv], q ρ _ H (Step.refl _ _) hs (rp_of_int _)⟩
  · cases h
    obtain ⟨v, rfl, rv⟩ := one_of r
    exact .inr ⟨_, by rw [rp_bl rv], q ρ _ H (Step.refl _ _) hs (rp_of_int _)⟩
  · cases h
theorem imp_tuple : ImpC G bTuple (fun xs H Q => ∃ p ys, xs = [.ref p] ∧ ((SqL G.K H p ys ∧ ∀ l, H l = none → Q (.ref l) (upd H l (.tup ys))) ∨ (SqT G.K H p ys ∧ Q (.ref p) H))) := by
  rintro xs H Q ⟨ρ, S, ds, d, S', hs, r, h, q⟩
  unfold bTuple at h
  split at h
  · cases h
    obtain ⟨v, rfl, rv⟩ := one_of r
    obtain ⟨a, vs, rfl, q1, l1⟩ := rp_vs rv
    exact ⟨a, vs, rfl, .inr ⟨q1, q ρ _ H (Step.refl _ _) hs rv⟩⟩
  · obtain ⟨ys, h1, h2⟩ := Option.map_eq_some_iff.mp h
    cases h2
    obtain ⟨v, rfl, rv⟩ := one_of r
    obtain ⟨a, hr, rfl⟩ := rp_lc rv
    obtain ⟨a', vs, hr', q1, l1⟩ := lsAt_of hs h1
    rw [hr] at hr'; cases hr'
    exact ⟨a.1, vs, rfl, .inl ⟨q1, fun p hp => q ρ _ _ (Step.untracked hp) (hs.untracked hp) (rp_tup hp l1)⟩⟩
  · cases h
end
/-! of a list that nobody else holds -/
def gTupU : Fn := fun ds S => some (.tup ds, S)
def gLenU : Fn := fun ds S => some (.int ds.length, S)
def gAllU : Fn := fun ds S => (bs? ds).map fun bs => (.bl (bs.all id), S)
def gSumU : Fn := fun ds S => (is? ds).map fun bs => (.int bs.sum, S)
abbrev ImpU (G : Gx) (g : Fn) (r : List V → Hp → VK → Prop) : Prop := ∀ ρ S ds vs p H (Q : VK) d S', SR G ρ H S → RpL G ρ H ds vs → H p = some (.lst vs) → g ds S = some (d, S') → (∀ ρ' v H', Step ρ H ρ' H' → SR G ρ' H' S' → Rp G ρ' H' d v → Q v H') → r [.ref p] H Q
section
variable {X : Cx} {e : Expr} {fu : ADen} {g : Fn} {r : List V → Hp → VK → Prop} {x : Str} {p pos : Pos} {id : String} {G : Gx}
theorem u_imp (hi : ImpU G g r) {σ : L2.St} {H : Hp} {Q : VK} (h : tE G (eU g fu) σ H Q) : tCB r (tCons (tU G fu) tNil) σ H Q := by
  obtain ⟨ρ, env, S, d, S', he, hs, hf, q⟩ := h
  obtain ⟨y, S1, h1, hf⟩ := bind2 hf
  show tU G fu σ H fun x H1 => r [x] H1 Q
  refine tU.bind he hs h1 fun ρ1 t vs H1 st1 he1 sr1 r1 e1 f1 n1 => ?_
  exact hi ρ1 S1 y vs t H1 Q d S' sr1 r1 e1 hf fun ρ' v H' st sr rr => q ρ' v H' (st1.trans st) sr rr
theorem me_callBU (hc : CallR X (.builtin id) r) (hi : ImpU (gx X) g r) (hg : Gl X x) (hm : X.mg x = none) (hv : bootBuiltins x = some (.builtin id)) (ha : MU X e fu) (hn : x ≠ "__name__" := by decide) (hdb : (x == ("__debug__" : Str)) = false := by decide)
    (hs : starEach [e] X.env = (false, eval e X.env) :: starEach [] X.env := by rfl) (hpl : (backTo pos (starEach [] X.env)).any (·.1) = false := by rfl) : ME X (.Call (.Name x p) [e] [] pos) (eU g fu) :=
  ⟨PE.weak (pe_callB hc hg hm hv (pa_cons ha.pu pa_nil hs) hn hdb hs hpl) fun _ _ _ h => u_imp hi h⟩
theorem me_callTyU (hc : CallR X (.type id) r) (hi : ImpU (gx X) g r) (hg : Gl X x) (hm : X.mg x = none) (hv : bootBuiltins x = some (.type id)) (ha : MU X e fu) (hn : x ≠ "__name__" := by decide) (hdb : (x == ("__debug__" : Str)) = false := by decide)
    (hs : starEach [e] X.env = (false, eval e X.env) :: starEach [] X.env := by rfl) (hpl : (backTo pos (starEach [] X.env)).any (·.1) = false := by rfl) : ME X (.Call (.Name x p) [e] [] pos) (eU g fu) :=
  ⟨PE.weak (pe_callTy hc hg hm hv (pa_cons ha.pu pa_nil hs) hn hdb hs hpl) fun _ _ _ h => u_imp hi h⟩
theorem impU_tup : ImpU G gTupU (fun xs H Q => ∃ p ys, xs = [.ref p] ∧ ((SqL G.K H p ys ∧ ∀ l, H l = none → Q (.ref l) (upd H l (.tup ys))) ∨ (SqT G.K H p ys ∧ Q (.ref p) H))) := by
  rintro ρ S ds vs p H Q d S' hs r e h q
  cases h
  exact ⟨p, vs, rfl, .inl ⟨.inl (.inl e), fun l hl => q ρ _ _ (Step.untracked hl) (hs.untracked hl) (rp_tup hl r)⟩⟩
theorem impU_all : ImpU G gAllU (rAll G.K) := by
  rintro ρ S ds vs p H Q d S' hs r e h q
  obtain ⟨bs, h1, h2⟩ := Option.map_eq_some_iff.mp h
  cases h2
  have := bs_ok h1 r
  subst this
  exact ⟨p, bs, rfl, .inl (.inl e), q ρ _ H (Step.refl _ _) hs (rp_of_bl _)⟩
theorem impU_sum : ImpU G gSumU (rSum G.K) := by
  rintro ρ S ds vs p H Q d S' hs r e h q
  obtain ⟨bs, h1, h2⟩ := Option.map_eq_some_iff.mp h
  cases h2
  have := is_ok h1 r
  subst this
  exact ⟨p, bs, rfl, .inl (.inl e), q ρ _ H (Step.refl _ _) hs (rp_of_int _)⟩
end
end ML

namespace ML
open PySem PySem.Spec PyProof.Rows L2

/-! ### targets -/
abbrev GDen := D → En → Sto → Option (En × Sto)
abbrev GsDen := List D → En → Sto → Option (En × Sto)
def tG (G : Gx) (f : GDen) : TG := fun v σ H Q => ∃ ρ env S d env' S', EnR G ρ H env σ ∧ SR G ρ H S ∧ Rp G ρ H d v ∧ f d env S = some (env', S') ∧ ∀ ρ' σ' H', Step ρ H ρ' H' → EnR G ρ' H' env' σ' → SR G ρ' H' S' → Q σ' H'
def tGs (G : Gx) (f : GsDen) : TGs := fun vs σ H Q => ∃ ρ env S ds env' S', EnR G ρ H env σ ∧ SR G ρ H S ∧ RpL G ρ H ds vs ∧ f ds env S = some (env', S') ∧ ∀ ρ' σ' H', Step ρ H ρ' H' → EnR G ρ' H' env' σ' → SR G ρ' H' S' → Q σ' H'
structure MG (X : Cx) (e : Expr) (f : GDen) : Prop where
  pg : PG X e (tG (gx X) f)
structure MGs (X : Cx) (es : List Expr) (f : GsDen) : Prop where
  pgs : PGs X es (tGs (gx X) f)
theorem PG.weak {X : Cx} {e : Expr} {t t' : TG} (h : PG X e t) (hw : ∀ v σ H Q, t' v σ H Q → t v σ H Q) : PG X e t' := ⟨fun pins s σ H v u Q I r q => h.run pins s σ H v u Q I r (hw v σ H Q q)⟩
theorem PGs.weak {X : Cx} {e : List Expr} {t t' : TGs} (h : PGs X e t) (hw : ∀ v σ H Q, t' v σ H Q → t v σ H Q) : PGs X e t' := ⟨fun pins s σ H v u Q I r q => h.run pins s σ H v u Q I r (hw v σ H Q q)⟩
def gName (i : Nat) : GDen := fun d env S => some (env.set i (some d), S)
def gNil : GsDen
  | [], env, S => some (env, S)
  | _, _, _ => none
def gCons (f : GDen) (g : GsDen) : GsDen
  | d :: r, env, S => (f d env S).bind fun p => g r p.1 p.2
  | _, _, _ => none
def gTup (n : Nat) (g : GsDen) : GDen
  | .tup ds, env, S => if ds.length = n then g ds env S else none
  | _, _, _ => none
theorem tG.bind {G : Gx} {f : GDen} {v : V} {d : D} {σ : L2.St} {H : Hp} {ρ : List Lo} {env env' : En} {S S1 : Sto} {R : L2.St → Hp → Prop} (he : EnR G ρ H env σ) (hs : SR G ρ H S) (hr : Rp G ρ H d v) (h : f d env S = some (env', S1))
    (k : ∀ ρ' σ' H', Step ρ H ρ' H' → EnR G ρ' H' env' σ' → SR G ρ' H' S1 → R σ' H') : tG G f v σ H R := ⟨ρ, env, S, d, env', S1, he, hs, hr, h, k⟩
theorem tGs.bind {G : Gx} {f : GsDen} {v : List V} {d : List D} {σ : L2.St} {H : Hp} {ρ : List Lo} {env env' : En} {S S1 : Sto} {R : L2.St → Hp → Prop} (he : EnR G ρ H env σ) (hs : SR G ρ H S) (hr : RpL G ρ H d v) (h : f d env S = some (env', S1))
    (k : ∀ ρ' σ' H', Step ρ H ρ' H' → EnR G ρ' H' env' σ' → SR G ρ' H' S1 → R σ' H') : tGs G f v σ H R := ⟨ρ, env, S, d, env', S1, he, hs, hr, h, k⟩
section
variable {X : Cx} {pos : Pos} {e o i : Expr} {es : List Expr} {f : GDen} {g : GsDen} {fo fi : Den}
theorem mg_name (i : Nat) {x : Str} (hN : X.N.Nodup) (hi : X.N[i]? = some x := by rfl) (hx : Loc X.env.scope x := by first | exact Or.inl rfl | exact Or.inr rfl) (hf : X.fn x = true ∨ X.env.scope.names.lookup x = some .local := by first | exact .inl rfl | exact .inr rfl) : MG X (.Name x pos) (gName i) := by
  refine ⟨PG.weak (pg_name hN hi hx hf) fun v σ H Q h => ?_⟩
  obtain ⟨ρ, env, S, d, env', S', he, hs, hr, h, q⟩ := h
  cases h
  exact q ρ _ H (Step.refl _ _) (he.set hr i) hs
theorem mgs_nil : MGs X [] gNil := by
  refine ⟨PGs.weak pgs_nil fun v σ H Q h => ?_⟩
  obtain ⟨ρ, env, S, d, env', S', he, hs, hr, h, q⟩ := h
  cases d with
  | nil => cases h; simp only [RpL] at hr; exact ⟨hr, q ρ σ H (Step.refl _ _) he hs⟩
  | cons _ _ => cases h
theorem mgs_cons (h1 : MG X e f) (h2 : MGs X es g) (hs : (assignEach (e :: es) X.env).map (·.2) = assign e X.env :: (assignEach es X.env).map (·.2) := by rfl) : MGs X (e :: es) (gCons f g) := by
  refine ⟨PGs.weak (pgs_cons h1.pg h2.pgs hs) fun v σ H Q h => ?_⟩
  obtain ⟨ρ, env, S, d, env', S', he, hs, hr, h, q⟩ := h
  cases d with
  | nil => cases h
  | cons d r =>
    obtain ⟨x, S1, h1, h2⟩ := bind2 (show (f d env S).bind _ = _ from h)
    simp only [RpL] at hr
    obtain ⟨w, t, rfl, rw1, rt⟩ := hr
    refine ⟨w, t, rfl, tG.bind he hs rw1 h1 fun ρ1 σ1 H1 st1 he1 sr1 => ?_⟩
    exact tGs.bind he1 sr1 (rt.step st1) h2 fun ρ2 σ2 H2 st2 he2 sr2 => q ρ2 σ2 H2 (st1.trans st2) he2 sr2
theorem mg_tup {k n : Nat} (hc : X.calm = true) (h : MGs X es g) (hn : (assignEach es X.env).length = n := by rfl) (hst : (assignEach es X.env).findIdx? (·.1) = none := by rfl) : MG X (.Tuple es k pos) (gTup n g) := by
  refine ⟨PG.weak (pg_tup hc h.pgs hn hst) fun v σ H Q h => ?_⟩
  obtain ⟨ρ, env, S, d, env', S', he, hs, hr, h, q⟩ := h
  cases d with
  | tup ds =>
    simp only [gTup] at h
    split at h
    · rename_i hl
      obtain ⟨a, vs, rfl, q1, l1⟩ := rp_vs hr
      exact ⟨a, vs, rfl, q1, by rw [l1.length]; exact hl, tGs.bind he hs l1 h q⟩
    · cases h
  | _ => cases h
/-- o[i] = .. of a list -/
def gPut (fo fi : Den) : GDen := fun d env S => (fo env S).bind fun p => (fi env p.2).bind fun q => match p.1, q.1 with
  | .loc l, .int i => match q.2[l]? with
    | some (.lst xs) => (ixN xs.length i).map fun j => (env, q.2.set l (.lst (xs.set j d)))
    | _ => none
  | _, _ => none
theorem mg_sub (ho : ME X o fo) (hi : ME X i fi)
    (ha : ∀ v, assign (.Subscript o i pos) X.env v = (do
      let ov ← holding [v] (eval o X.env)
      let iv ← holding [v, ov] (eval i X.env)
      standAt pos
      holding [v, ov, iv] (setItem ov iv v)
      release [v, ov, iv] []) := by intro _; rfl) : MG X (.Subscript o i pos) (gPut fo fi) := by
  refine ⟨PG.weak (pg_sub ho.pe hi.pe set_list ha) fun v σ H Q h => ?_⟩
  obtain ⟨ρ, env, S, d, env', S', he, hs, hr, h, q⟩ := h
  obtain ⟨x, S1, h1, h⟩ := bind2 h
  obtain ⟨y, S2, h2, h⟩ := bind2 h
  refine tE.bind he hs h1 fun ρ1 v1 H1 st1 he1 sr1 r1 => tE.bind he1 sr1 h2 fun ρ2 v2 H2 st2 he2 sr2 r2 => ?_
  simp only at h
  split at h
  · split at h
    · rename_i l i _ xs e1
      obtain ⟨j, h3, h4⟩ := Option.map_eq_some_iff.mp h
      cases h4
      obtain ⟨a, ha, rfl⟩ := rp_lc (r1.step st2)
      obtain ⟨_, vs, hv, l1⟩ := sr2.lst e1 ha
      obtain ⟨p1, p2⟩ := sr2.putL e1 ha hv (RpL.set ((hr.step st1).step st2) j l1)
      exact ⟨a.1, vs, _, j, rfl, rp_int r2, hv, by rw [l1.length]; exact h3, q ρ2 σ _ ((st1.trans st2).trans p2) (he2.step p2) p1⟩
    · cases h
  · cases h
end

/-! ### what is walked -/
structure Itb where
  ds : List D
  src : List (Nat × Ob)
abbrev IDen := En → Sto → Option (Itb × Sto)
def srcOk (src : List (Nat × Ob)) (S : Sto) : Prop := ∀ p ∈ src, S[p.1]? = some p.2
structure ItR (G : Gx) (ρ : List Lo) (H : Hp) (it : Itb) (J : It) : Prop where
  goes : ∀ i ρ2 H2 S2, i < it.ds.length → Step ρ H ρ2 H2 → SR G ρ2 H2 S2 → srcOk it.src S2 → J.go i H2
  stops : ∀ ρ2 H2 S2, Step ρ H ρ2 H2 → SR G ρ2 H2 S2 → srcOk it.src S2 → J.stop it.ds.length H2
  yields : ∀ i ρ2 H2 S2 x H3, i < it.ds.length → Step ρ H ρ2 H2 → SR G ρ2 H2 S2 → srcOk it.src S2 → J.yld i H2 x H3 → Step ρ2 H2 ρ2 H3 ∧ SR G ρ2 H3 S2 ∧ ∃ d, it.ds[i]? = some d ∧ Rp G ρ2 H3 d x
def tI (G : Gx) (f : IDen) : TI := fun σ H R => ∃ ρ env S it S', EnR G ρ H env σ ∧ SR G ρ H S ∧ f env S = some (it, S') ∧ ∀ ρ' H' J, Step ρ H ρ' H' → SR G ρ' H' S' → ItR G ρ' H' it J → R J H'
structure MI (X : Cx) (tg iter : Expr) (f : IDen) : Prop where
  pi : PI X tg iter (tI (gx X) f)
theorem PI.weak {X : Cx} {tg e : Expr} {t t' : TI} (h : PI X tg e t) (hw : ∀ σ H Q, t' σ H Q → t σ H Q) : PI X tg e t' := ⟨fun pins s σ H Q I q => h.run pins s σ H Q I (hw σ H Q q)⟩
theorem PI.or {X : Cx} {tg e : Expr} {t t' : TI} (h : PI X tg e t) (h' : PI X tg e t') : PI X tg e (fun σ H Q => t σ H Q ∨ t' σ H Q) := ⟨fun pins s σ H Q I q => q.elim (h.run pins s σ H Q I) (h'.run pins s σ H Q I)⟩
/-- a list or a tuple -/
def iSeq (f : Den) : IDen := fun env S => (f env S).bind fun p => match p.1 with
  | .tup ds => some (⟨ds, []⟩, p.2)
  | .loc l => match p.2[l]? with
    | some (.lst ds) => some (⟨ds, [(l, .lst ds)]⟩, p.2)
    | some (.rol ds) => some (⟨ds, [(l, .rol ds)]⟩, p.2)
    | _ => none
  | _ => none
def iU (f : ADen) : IDen := fun env S => (f env S).bind fun p => some (⟨p.1, []⟩, p.2)
section
variable {G : Gx} {ρ : List Lo} {H : Hp}
theorem itR_tup {a : Addr} {ds : List D} {vs : List V} (h : SqT G.K H a vs) (r : RpL G ρ H ds vs) : ItR G ρ H ⟨ds, []⟩ (Itt G.K a) where
  goes := fun i ρ2 H2 S2 hi st sr _ => by
    have hi' : i < vs.length := by rw [r.length]; exact hi
    exact ⟨vs, vs[i], st.seqT h, List.getElem?_eq_getElem hi'⟩
  stops := fun ρ2 H2 S2 st sr _ => ⟨vs, st.seqT h, by rw [r.length] <;> exact Nat.le_refl _⟩
  yields := fun i ρ2 H2 S2 x H3 hi st sr _ y => by
    obtain ⟨rfl, y⟩ := y
    have hx := y vs (st.seqT h)
    obtain ⟨v, e1, e2⟩ := r.get (List.getElem?_eq_getElem hi)
    rw [hx] at e1; cases e1
    exact ⟨Step.refl _ _, sr, _, List.getElem?_eq_getElem hi, e2.step st⟩
theorem itR_lst {a : Lo} {l : Nat} {ob : Ob} {ds : List D} (hx : ob.xs? = some ds) (hr : ρ[l]? = some a) : ItR G ρ H ⟨ds, [(l, ob)]⟩ (Itl G.K a.1) := by
  have key : ∀ ρ2 H2 S2, Step ρ H ρ2 H2 → SR G ρ2 H2 S2 → srcOk [(l, ob)] S2 → ∃ vs, SqL G.K H2 a.1 vs ∧ RpL G ρ2 H2 ds vs := by
    intro ρ2 H2 S2 st sr so
    have e : S2[l]? = some ob := so (l, ob) (by simp)
    obtain ⟨a', vs, h1, h2, h3⟩ := lsAt_of sr (show lsAt S2 l = some ds by unfold lsAt; rw [e]; exact hx)
    rw [pre_get st.pre hr] at h1; cases h1
    exact ⟨vs, h2, h3⟩
  refine ⟨fun i ρ2 H2 S2 hi st sr so => ?_, fun ρ2 H2 S2 st sr so => ?_, fun i ρ2 H2 S2 x H3 hi st sr so y => ?_⟩
  · obtain ⟨vs, h2, h3⟩ := key ρ2 H2 S2 st sr so
    have hi' : i < vs.length := by rw [h3.length]; exact hi
    exact ⟨vs, vs[i], h2, List.getElem?_eq_getElem hi'⟩
  · obtain ⟨vs, h2, h3⟩ := key ρ2 H2 S2 st sr so
    exact ⟨vs, h2, by rw [h3.length] <;> exact Nat.le_refl _⟩
  · obtain ⟨vs, h2, h3⟩ := key ρ2 H2 S2 st sr so
    obtain ⟨rfl, y⟩ := y
    have hx := y vs h2
    obtain ⟨v, e1, e2⟩ := h3.get (List.getElem?_eq_getElem hi)
    rw [hx] at e1; cases e1
    exact ⟨Step.refl _ _, sr, _, List.getElem?_eq_getElem hi, e2⟩
end
section
variable {X : Cx} {tg e a b : Expr} {fe fa fb : Den} {fu : ADen} {p pos : Pos}
theorem mi_seq (h : ME X e fe) : MI X tg e (iSeq fe) := by
  refine ⟨PI.weak (PI.or (pi_tup h.pe) (pi_list h.pe)) fun σ H R h => ?_⟩
  obtain ⟨ρ, env, S, it, S', he, hs, hf, q⟩ := h
  obtain ⟨x, S1, h1, hf⟩ := bind2 hf
  cases x with
  | tup ds =>
    cases hf
    refine .inl (tE.bind he hs h1 fun ρ1 v1 H1 st1 he1 sr1 r1 => ?_)
    obtain ⟨a, vs, rfl, q1, l1⟩ := rp_vs r1
    exact ⟨a, rfl, ⟨vs, q1⟩, q ρ1 H1 _ st1 sr1 (itR_tup q1 l1)⟩
  | loc l =>
    have hk : ∃ ob ds, S1[l]? = some ob ∧ ob.xs? = some ds ∧ it = ⟨ds, [(l, ob)]⟩ ∧ S' = S1 := by
      simp only at hf
      split at hf
      · rename_i ds e1; cases hf; exact ⟨_, _, e1, rfl, rfl, rfl⟩
      · rename_i ds e1; cases hf; exact ⟨_, _, e1, rfl, rfl, rfl⟩
      · cases hf
    obtain ⟨ob, ds, e1, e2, rfl, rfl⟩ := hk
    refine .inr (tE.bind he hs h1 fun ρ1 v1 H1 st1 he1 sr1 r1 => ?_)
    obtain ⟨a, hr, rfl⟩ := rp_lc r1
    obtain ⟨a', vs, h3, h4, h5⟩ := lsAt_of sr1 (show lsAt S' l = some ds by unfold lsAt; rw [e1]; exact e2)
    rw [hr] at h3; cases h3
    exact ⟨a.1, rfl, ⟨vs, h4⟩, q ρ1 H1 _ st1 sr1 (itR_lst e2 hr)⟩
  | _ => cases hf
/-- range -/
def rngs (lo : Int) (n : Nat) : List D := (List.range n).map fun (i : Nat) => D.int (lo + (i : Int))
def iRange1 (fa : Den) : IDen := fun env S => (fa env S).bind fun p => match p.1 with
  | .int j => if -(2 ^ 62) ≤ j ∧ j < 2 ^ 62 then some (⟨rngs 0 j.toNat, []⟩, p.2) else none
  | _ => none
theorem itR_range {G : Gx} {ρ : List Lo} {H : Hp} {lo : Int} {n : Nat} : ItR G ρ H ⟨rngs lo n, []⟩ (Itr lo n) := by
  have hl : (rngs lo n).length = n := by simp [rngs]
  refine ⟨fun i _ _ _ hi _ _ _ => by show i < n; simpa [hl] using hi, fun _ _ _ _ _ _ => by simp [hl, Itr], fun i ρ2 H2 S2 x H3 hi st sr _ y => ?_⟩
  obtain ⟨rfl, rfl⟩ := y
  refine ⟨Step.refl _ _, sr, .int (lo + i), ?_, rp_of_int _⟩
  have hi' : i < n := by simpa [hl] using hi
  simp [rngs, hi']
theorem mi_range1 (hg : Gl X "range") (hm : X.mg "range" = none) (ha : ME X a fa) (hs : starEach [a] X.env = [(false, eval a X.env)] := by rfl) (hs' : starEach [a] X.env = (false, eval a X.env) :: starEach [] X.env := by rfl) : MI X tg (.Call (.Name "range" p) [a] [] pos) (iRange1 fa) := by
  refine ⟨PI.weak (pi_range1 hg hm (pa_cons ha.pe pa_nil hs') hs) fun σ H R h => ?_⟩
  obtain ⟨ρ, env, S, it, S', he, hs, hf, q⟩ := h
  obtain ⟨x, S1, h1, hf⟩ := bind2 hf
  cases x with
  | int j =>
    simp only at hf
    split at hf
    · rename_i hz
      cases hf
      exact tE.bind he hs h1 fun ρ1 v1 H1 st1 he1 sr1 r1 => ⟨j, by rw [rp_int r1], hz.1, hz.2, q ρ1 H1 _ st1 sr1 itR_range⟩
    · cases hf
  | _ => cases hf
/-- zip of two tuples, or of two lists -/
def zipD : List D → List D → List D
  | x :: xs, y :: ys => .tup [x, y] :: zipD xs ys
  | _, _ => []
theorem zipD_len : ∀ (xs ys : List D), (zipD xs ys).length = min xs.length ys.length
  | [], _ => by simp [zipD]
  | _ :: _, [] => by simp [zipD]
  | x :: xs, y :: ys => by simp [zipD, zipD_len xs ys]
theorem zipD_get : ∀ {xs ys : List D} {i : Nat} {x y : D}, xs[i]? = some x → ys[i]? = some y → (zipD xs ys)[i]? = some (.tup [x, y])
  | [], _, _, _, _, h, _ => by simp at h
  | _ :: _, [], _, _, _, _, h => by simp at h
  | a :: xs, b :: ys, 0, x, y, h1, h2 => by simp at h1 h2; subst h1 h2; rfl
  | a :: xs, b :: ys, i + 1, x, y, h1, h2 => by
    simp only [zipD, List.getElem?_cons_succ] at *
    exact zipD_get h1 h2
def iZip (f : ADen) : IDen := fun env S => (f env S).bind fun p => match p.1 with
  | [.tup xs, .tup ys] => some (⟨zipD xs ys, []⟩, p.2)
  | [.loc l, .loc m] => match p.2[l]?, p.2[m]? with
    | some (.lst xs), some (.lst ys) => some (⟨zipD xs ys, [(l, .lst xs), (m, .lst ys)]⟩, p.2)
    | _, _ => none
  | _ => none
theorem itR_zip {G : Gx} {ρ : List Lo} {H : Hp} {J : It} {xs ys : List D} {src : List (Nat × Ob)} (sq : Hp → List V → List V → Prop)
    (key : ∀ ρ2 H2 S2, Step ρ H ρ2 H2 → SR G ρ2 H2 S2 → srcOk src S2 → ∃ vs us, sq H2 vs us ∧ RpL G ρ2 H2 xs vs ∧ RpL G ρ2 H2 ys us)
    (go : ∀ i H2 vs us v u, sq H2 vs us → vs[i]? = some v → us[i]? = some u → J.go i H2) (stop : ∀ H2 vs us n, sq H2 vs us → (vs.length ≤ n ∨ us.length ≤ n) → J.stop n H2)
    (yld : ∀ i H2 vs us x H3, sq H2 vs us → J.yld i H2 x H3 → ∃ T v u, x = .ref T ∧ H2 T = none ∧ H3 = upd H2 T (.tup [v, u]) ∧ vs[i]? = some v ∧ us[i]? = some u) : ItR G ρ H ⟨zipD xs ys, src⟩ J := by
  refine ⟨fun i ρ2 H2 S2 hi st sr so => ?_, fun ρ2 H2 S2 st sr so => ?_, fun i ρ2 H2 S2 x H3 hi st sr so y => ?_⟩
  · obtain ⟨vs, us, h1, h2, h3⟩ := key ρ2 H2 S2 st sr so
    simp only [zipD_len] at hi
    have hi1 : i < vs.length := by rw [h2.length]; omega
    have hi2 : i < us.length := by rw [h3.length]; omega
    exact go i H2 vs us _ _ h1 (List.getElem?_eq_getElem hi1) (List.getElem?_eq_getElem hi2)
  · obtain ⟨vs, us, h1, h2, h3⟩ := key ρ2 H2 S2 st sr so
    refine stop H2 vs us _ h1 ?_
    simp only [zipD_len, h2.length, h3.length]
    omega
  · obtain ⟨vs, us, h1, h2, h3⟩ := key ρ2 H2 S2 st sr so
    obtain ⟨T, v, u, rfl, hT, rfl, e1, e2⟩ := yld i H2 vs us x H3 h1 y
    simp only [zipD_len] at hi
    have hx : xs[i]? = some xs[i] := List.getElem?_eq_getElem (by omega)
    have hy : ys[i]? = some ys[i] := List.getElem?_eq_getElem (by omega)
    obtain ⟨v', a1, a2⟩ := h2.get hx
    obtain ⟨u', b1, b2⟩ := h3.get hy
    rw [e1] at a1; cases a1
    rw [e2] at b1; cases b1
    exact ⟨Step.untracked hT, sr.untracked hT, _, zipD_get hx hy, rp_tup hT (RpL.cons a2 (RpL.one b2))⟩
theorem mi_zip {elts : List Expr} {kk : Nat} {tpos : Pos} {e e2 : Expr} (hg : Gl X "zip") (hm : X.mg "zip" = none) (ha : MA X [e, e2] fu) (hs : starEach [e, e2] X.env = (false, eval e X.env) :: starEach [e2] X.env := by rfl)
    (hpl : (backTo pos (starEach [e2] X.env)).any (·.1) = false := by rfl) : MI X (.Tuple elts kk tpos) (.Call (.Name "zip" p) [e, e2] [] pos) (iZip fu) := by
  refine ⟨PI.weak (RZ.pi_zipA hg hm ha.pa hs hpl) fun σ H R h => ?_⟩
  obtain ⟨ρ, env, S, it, S', he, hs, hf, q⟩ := h
  obtain ⟨x, S1, h1, hf⟩ := bind2 hf
  refine tA.bind he hs h1 fun ρ1 vs H1 st1 he1 sr1 r1 => ?_
  simp only at hf
  split at hf
  · rename_i xs ys
    cases hf
    obtain ⟨v, u, rfl, rv, ru⟩ := two_of r1
    obtain ⟨a, vs, rfl, q1, l1⟩ := rp_vs rv
    obtain ⟨b, us, rfl, q2, l2⟩ := rp_vs ru
    refine ⟨a, b, vs, us, rfl, .inr ⟨q1, q2, q ρ1 H1 _ st1 sr1 ?_⟩⟩
    refine itR_zip (fun H2 vs us => SqT X.K H2 a vs ∧ SqT X.K H2 b us) (fun ρ2 H2 S2 st sr _ => ⟨vs, us, ⟨st.seqT q1, st.seqT q2⟩, l1.step st, l2.step st⟩) (fun i H2 vs us v u h h1 h2 => ⟨vs, us, v, u, h.1, h.2, h1, h2⟩)
      (fun H2 vs us n h h1 => ⟨vs, us, h.1, h.2, h1⟩) fun i H2 vs us x H3 h y => ?_
    obtain ⟨T, v, u, y1, y2, y3, y4, y5⟩ := y
    exact ⟨T, v, u, y1, y2, y3, y4 _ h.1, y5 _ h.2⟩
  · rename_i l m
    split at hf
    · rename_i xs ys e1 e2
      cases hf
      obtain ⟨v, u, rfl, rv, ru⟩ := two_of r1
      obtain ⟨a, ha, rfl⟩ := rp_lc rv
      obtain ⟨b, hb, rfl⟩ := rp_lc ru
      obtain ⟨_, vs, hv, l1⟩ := sr1.lst e1 ha
      obtain ⟨_, us, hu, l2⟩ := sr1.lst e2 hb
      refine ⟨a.1, b.1, vs, us, rfl, .inl ⟨.inl (.inl hv), .inl (.inl hu), q ρ1 H1 _ st1 sr1 ?_⟩⟩
      refine itR_zip (fun H2 vs us => SqL X.K H2 a.1 vs ∧ SqL X.K H2 b.1 us) (fun ρ2 H2 S2 st sr so => ?_) (fun i H2 vs us v u h h1 h2 => ⟨vs, us, v, u, h.1, h.2, h1, h2⟩)
        (fun H2 vs us n h h1 => ⟨vs, us, h.1, h.2, h1⟩) fun i H2 vs us x H3 h y => ?_
      · obtain ⟨_, vs, hv, l1⟩ := sr.lst (so (l, .lst xs) (by simp)) (pre_get st.pre ha)
        obtain ⟨_, us, hu, l2⟩ := sr.lst (so (m, .lst ys) (by simp)) (pre_get st.pre hb)
        exact ⟨vs, us, ⟨.inl (.inl hv), .inl (.inl hu)⟩, l1, l2⟩
      · obtain ⟨T, v, u, y1, y2, y3, y4, y5⟩ := y
        exact ⟨T, v, u, y1, y2, y3, y4 _ h.1, y5 _ h.2⟩
    · cases hf
  · cases hf
end
end ML

namespace ML
open PySem PySem.Spec PyProof.Rows L2

/-! ### comprehensions -/
/-- the slots of a block's own names forgotten -/
def wipeE (env : En) : List Nat → En
  | [] => env
  | v :: vs => (wipeE env vs).set v none
theorem EnR.wiped {G : Gx} {ρ : List Lo} {H : Hp} {env : En} {σ : L2.St} (h : EnR G ρ H env σ) : ∀ vs, EnR G ρ H (wipeE env vs) (L2.wipe σ vs)
  | [] => h
  | v :: vs => by
    have ih := EnR.wiped h vs
    refine ⟨by simp [wipeE, L2.wipe, ih.len], fun i d e => ?_⟩
    unfold wipeE at e
    unfold L2.wipe
    by_cases hi : v = i
    · subst hi
      by_cases hl : v < (wipeE env vs).length
      · rw [List.getElem?_set_self hl] at e; cases e
      · rw [List.getElem?_eq_none (by simpa using hl)] at e; cases e
    · rw [List.getElem?_set_ne hi] at e ⊢
      exact ih.at_ i d e
theorem wipe_get (σ : L2.St) : ∀ (vs : List Nat) (j : Nat), (L2.wipe σ vs)[j]? = if j ∈ vs ∧ j < σ.length then some none else σ[j]?
  | [], j => by simp [L2.wipe]
  | v :: vs, j => by
    unfold L2.wipe
    by_cases hv : v = j
    · subst hv
      by_cases hl : v < σ.length
      · rw [List.getElem?_set_self (by rw [wipe_length]; exact hl), if_pos ⟨by simp, hl⟩]
      · rw [if_neg (by omega), List.getElem?_eq_none (by simp [wipe_length]; omega), List.getElem?_eq_none (by omega)]
    · rw [List.getElem?_set_ne hv, wipe_get σ vs j]
      have : (j ∈ v :: vs ∧ j < σ.length) ↔ (j ∈ vs ∧ j < σ.length) := by
        rw [List.mem_cons]
        constructor
        · rintro ⟨a | a, b⟩
          · exact absurd a.symm hv
          · exact ⟨a, b⟩
        · rintro ⟨a, b⟩; exact ⟨.inr a, b⟩
      by_cases q : j ∈ vs ∧ j < σ.length
      · rw [if_pos q, if_pos (this.mpr q)]
      · rw [if_neg q, if_neg (fun z => q (this.mp z))]
theorem wipe_set {σ : L2.St} {vs : List Nat} {i : Nat} {x : Option V} (h : i ∈ vs) : L2.wipe (σ.set i x) vs = L2.wipe σ vs := by
  apply List.ext_getElem?
  intro j
  rw [wipe_get, wipe_get, List.length_set]
  by_cases hj : j ∈ vs ∧ j < σ.length
  · rw [if_pos hj, if_pos hj]
  · rw [if_neg hj, if_neg hj]
    by_cases hi : i = j
    · subst hi
      have : ¬ i < σ.length := fun z => hj ⟨h, z⟩
      rw [List.getElem?_eq_none (by simpa using this), List.getElem?_eq_none (by omega)]
    · rw [List.getElem?_set_ne hi]
theorem wipe_wipe (σ : L2.St) (vs : List Nat) : L2.wipe (L2.wipe σ vs) vs = L2.wipe σ vs := by
  apply List.ext_getElem?
  intro j
  rw [wipe_get, wipe_length, wipe_get]
  split <;> simp_all
/-- a target's reading and its function, that store only to the told slots -/
structure GC (G : Gx) (gg : TG) (g : GDen) (vs : List Nat) : Prop where
  imp : ∀ v σ H Q, tG G g v σ H Q → gg v σ H fun σ' H' => L2.wipe σ' vs = L2.wipe σ vs ∧ Q σ' H'
theorem GC.imp' {G : Gx} {gg : TG} {g : GDen} {vs : List Nat} (h : GC G gg g vs) {v : V} {σ : L2.St} {H : Hp} {Q : L2.St → Hp → Prop} (q : tG G g v (L2.wipe σ vs) H Q) : gg v (L2.wipe σ vs) H fun σ' H' => L2.wipe σ' vs = L2.wipe σ vs ∧ Q σ' H' := by
  have z := h.imp v (L2.wipe σ vs) H Q q
  rw [wipe_wipe] at z
  exact z
structure GCs (G : Gx) (gg : TGs) (g : GsDen) (vs : List Nat) : Prop where
  imp : ∀ v σ H Q, tGs G g v σ H Q → gg v σ H fun σ' H' => L2.wipe σ' vs = L2.wipe σ vs ∧ Q σ' H'
theorem gc_name {G : Gx} {i : Nat} {vs : List Nat} (h : i ∈ vs) : GC G (L2.gName i) (gName i) vs := ⟨fun v σ H Q h' => by
  obtain ⟨ρ, env, S, d, env', S', he, hs, hr, hf, q⟩ := h'
  cases hf
  exact ⟨wipe_set h, q ρ _ H (Step.refl _ _) (he.set hr i) hs⟩⟩
theorem gcs_nil {G : Gx} {vs : List Nat} : GCs G L2.gNil gNil vs := ⟨fun v σ H Q h' => by
  obtain ⟨ρ, env, S, d, env', S', he, hs, hr, hf, q⟩ := h'
  cases d with
  | nil => cases hf; simp only [RpL] at hr; exact ⟨hr, rfl, q ρ σ H (Step.refl _ _) he hs⟩
  | cons _ _ => cases hf⟩
/-- names alone: they leave the heap and the store -/
theorem gcs_cons {G : Gx} {i : Nat} {vs : List Nat} {gg : TGs} {g : GsDen} (h : i ∈ vs) (hr : GCs G gg g vs) : GCs G (L2.gCons (L2.gName i) gg) (gCons (gName i) g) vs := ⟨fun v σ H Q h' => by
  obtain ⟨ρ, env, S, d, env', S', he, hs, hrr, hf, q⟩ := h'
  cases d with
  | nil => cases hf
  | cons d r =>
    simp only [RpL] at hrr
    obtain ⟨w, t, rfl, rw1, rt⟩ := hrr
    have hf' : g r (env.set i (some d)) S = some (env', S') := hf
    refine ⟨w, t, rfl, ?_⟩
    have z := hr.imp t (σ.set i (some w)) H Q ⟨ρ, _, S, r, env', S', he.set rw1 i, hs, rt, hf', q⟩
    rw [wipe_set h] at z
    exact z⟩
theorem gc_tup {G : Gx} {n : Nat} {vs : List Nat} {gg : TGs} {g : GsDen} (h : GCs G gg g vs) : GC G (L2.gTup G.K n gg) (gTup n g) vs := ⟨fun v σ H Q h' => by
  obtain ⟨ρ, env, S, d, env', S', he, hs, hr, hf, q⟩ := h'
  cases d with
  | tup ds =>
    simp only [gTup] at hf
    split at hf
    · rename_i hl
      obtain ⟨a, us, rfl, q1, l1⟩ := rp_vs hr
      exact ⟨a, us, rfl, q1, by rw [l1.length]; exact hl, h.imp us σ H Q ⟨ρ, env, S, ds, env', S', he, hs, l1, hf, q⟩⟩
    · cases hf
  | _ => cases hf⟩
noncomputable section
open Classical
/-- the turns of [elt for tg in it if ..] -/
def lcRun (src : List (Nat × Ob)) (tg : GDen) (t : TDen) (f : Den) (env : En) : List D → List D → Sto → Option (List D × Sto)
  | [], acc, S => if srcOk src S then some (acc, S) else none
  | d :: ds, acc, S => if srcOk src S then (tg d env S).bind fun p => (t p.1 p.2).bind fun q => if q.1 = true then (f p.1 q.2).bind fun r => if acc.length < sizeLine then lcRun src tg t f env ds (acc ++ [r.1]) r.2 else none else lcRun src tg t f env ds acc q.2 else none
def uLc (it : IDen) (tg : GDen) (t : TDen) (f : Den) (vs : List Nat) : ADen := fun env S => (it env S).bind fun p => lcRun p.1.src tg t f (wipeE env vs) p.1.ds [] p.2
end
def tYes : TDen := fun _ S => some (true, S)
structure MTs (X : Cx) (es : List Expr) (f : TDen) : Prop where
  pts : PTs X es (tT (gx X) f)
theorem PTs.weak {X : Cx} {e : List Expr} {t t' : TT} (h : PTs X e t) (hw : ∀ σ H Q, t' σ H Q → t σ H Q) : PTs X e t' := ⟨fun pins s σ H Q I q => h.run pins s σ H Q I (hw σ H Q q)⟩
section
variable {X : Cx}
theorem mts_nil : MTs X [] tYes := ⟨PTs.weak pts_nil fun σ H Q h => by
  obtain ⟨ρ, env, S, b, S', he, hs, hf, q⟩ := h
  cases hf
  exact q ρ H (Step.refl _ _) hs⟩
theorem mts_one {c : Expr} {t : TDen} (h : MT X c t) : MTs X [c] t := ⟨pts_one h.pt⟩
end
section
variable {X : Cx} {elt tg iter : Expr} {ifs : List Expr} {scope : Scope} {own : List (Str × Nat)} {pos : Pos} {it : IDen} {g : GDen} {t : TDen} {f : Den}
/-- the reading of a comprehension by the turns -/
theorem lc_imp {G : Gx} {gg : TG} {vs : List Nat} (hg : GC G gg g vs) {σ : L2.St} {H : Hp} {Q : VK} (h : tU G (uLc it g t f vs) σ H Q) : tLc (tI G it) gg (tT G t) (tE G f) vs σ H Q := by
  obtain ⟨ρ, env, S, ds, S', he, hs, hf, q⟩ := h
  obtain ⟨p, S1, h1, hf⟩ := bind2 hf
  refine ⟨ρ, env, S, p, S1, he, hs, h1, fun ρ1 H1 J st1 sr1 ir D hD => ?_⟩
  have he1 := (he.step st1).wiped vs
  have hD0 : H D = none := st1.free sr1 hD
  refine ⟨fun i m H2 => m = p.ds.length - i ∧ i ≤ p.ds.length ∧ ∃ ρ2 S2 acc vs', Step ρ1 H1 ρ2 H2 ∧ (D, true) ∉ ρ2 ∧ SR G ρ2 H2 S2 ∧ H2 D = some (.lst vs') ∧ RpL G ρ2 H2 acc vs' ∧ lcRun p.src g t f (wipeE env vs) (p.ds.drop i) acc S2 = some (ds, S'),
    ⟨p.ds.length, by simp, Nat.zero_le _, ρ1, S1, [], [], Step.untracked hD, sr1.fresh hD, sr1.untracked hD, upd_same, RpL.nil, hf⟩, ?_⟩
  rintro i m H2 ⟨rfl, hi, ρ2, S2, acc, vs', st12, nD2, sr2, hD2, ra, hr⟩
  by_cases hlt : i < p.ds.length
  · rw [List.drop_eq_getElem_cons hlt] at hr
    unfold lcRun at hr
    split at hr
    · rename_i so
      obtain ⟨env3, S3, h3, hr⟩ := bind2 hr
      obtain ⟨b, S4, h4, hr⟩ := bind2 hr
      refine .inr ⟨ir.goes i ρ2 H2 S2 hlt st12 sr2 so, fun H2 => i + 1 ≤ p.ds.length ∧ ∃ ρ2 S2 acc vs', Step ρ1 H1 ρ2 H2 ∧ (D, true) ∉ ρ2 ∧ SR G ρ2 H2 S2 ∧ H2 D = some (.lst vs') ∧ RpL G ρ2 H2 acc vs' ∧ lcRun p.src g t f (wipeE env vs) (p.ds.drop (i + 1)) acc S2 = some (ds, S'),
        fun H' w => ⟨p.ds.length - (i + 1), by omega, rfl, w.1, w.2⟩, fun x H3 y => ?_⟩
      obtain ⟨st3, sr3, d, hd, rd⟩ := ir.yields i ρ2 H2 S2 x H3 hlt st12 sr2 so y
      have ed : p.ds[i] = d := Option.some.inj ((List.getElem?_eq_getElem hlt).symm.trans hd)
      rw [ed] at h3
      refine hg.imp' ⟨ρ2, wipeE env vs, S2, d, env3, S3, he1.step (st12.trans st3), sr3, rd, h3, fun ρ4 σ4 H4 st4 he4 sr4 => ?_⟩
      refine tT.bind he4 sr4 h4 fun ρ5 H5 st5 he5 sr5 => ?_
      have st25 : Step ρ2 H2 ρ5 H5 := (st3.trans st4).trans st5
      obtain ⟨hD5, nD5⟩ := st25.keepU hD2 nD2
      cases b with
      | true =>
        simp only [if_true] at hr ⊢
        obtain ⟨r, S6, h6, hr⟩ := bind2 hr
        refine tE.bind he5 sr5 h6 fun ρ6 v6 H6 st6 he6 sr6 r6 => ?_
        simp only at hr
        split at hr
        · rename_i hz
          obtain ⟨hD6, nD6⟩ := st6.keepU hD5 nD5
          have ra6 := ra.step (st25.trans st6)
          refine ⟨vs', hD6, by rw [ra6.length]; exact hz, by omega, ρ6, S6, acc ++ [r], vs' ++ [v6], ?_, nD6, ?_, upd_same, ?_, hr⟩
          all_goals (have stw : Mon ρ6 H6 ρ6 (upd H6 D (.lst (vs' ++ [v6]))) := ⟨List.prefix_refl _, fun b xs e => by
              have : b ≠ D := by rintro rfl; rw [hD6] at e; cases e
              rw [upd_ne this]; exact e, fun b x y e => by
              have : b ≠ D := by rintro rfl; rw [hD6] at e; cases e
              rw [upd_ne this]; exact e⟩)
          · have sa := st12.trans (st25.trans st6)
            refine ⟨⟨sa.pre, fun b xs e => stw.tup _ _ (sa.tup _ _ e), fun b x y e => stw.frz _ _ _ (sa.frz _ _ _ e)⟩, sa.new, fun b o e hb => ?_⟩
            have hbD : b ≠ D := by rintro rfl; rw [hD] at e; cases e
            rw [upd_ne hbD]; exact sa.oth b o e hb
          · exact ⟨sr6.len, fun l o a e1 e2 => ObR.over stw (fun hm x hx => by
              have : a.1 ≠ D := by
                rintro rfl
                have := sr6.mu l o a e1 e2
                rw [hm] at this
                exact nD6 (List.mem_of_getElem? (by rw [e2]; exact congrArg some (Prod.ext rfl this.symm)))
              rw [upd_ne this]; exact hx) (sr6.obj l o a e1 e2), sr6.mu, sr6.inj⟩
          · exact RpL.mon stw (ra6.append (RpL.one r6))
        · cases hr
      | false =>
        simp only [Bool.false_eq_true, if_false] at hr ⊢
        exact ⟨by omega, ρ5, S4, acc, vs', st12.trans st25, nD5, sr5, hD5, ra.step st25, hr⟩
    · cases hr
  · have e : i = p.ds.length := by omega
    subst e
    rw [List.drop_eq_nil_of_le (Nat.le_refl _)] at hr
    unfold lcRun at hr
    split at hr
    · rename_i so
      cases hr
      exact .inl ⟨ir.stops ρ2 H2 S' st12 sr2 so, q ρ2 D vs' H2 (st1.trans st12) sr2 ra hD2 hD0 nD2⟩
    · cases hr
end
end ML
namespace ML
open PySem PySem.Spec PyProof.Rows L2
section
variable {X : Cx} {elt tg iter : Expr} {ifs : List Expr} {scope : Scope} {pos : Pos} {it : IDen} {g : GDen} {t : TDen} {f : Den}
theorem mu_lc (own : List (Str × Nat)) {gg : TG} (hc : X.calm = true) (hN : X.N.Nodup) (hi : MI X tg iter it) (ok : BlkOk X.N X.env.scope scope own)
    (hg : ∀ (s : Shared) (H : Hp) (C : Addr) (cl : List (Str × Addr)) (fp : List Addr), PG (X.blk s H scope (compEnvC scope cl C X.env) fp) tg gg) (hgc : GC (gx X) gg g (own.map (·.2)))
    (ht : ∀ (s : Shared) (H : Hp) (C : Addr) (cl : List (Str × Addr)) (fp : List Addr), MTs (X.blk s H scope (compEnvC scope cl C X.env) fp) ifs t)
    (he : ∀ (s : Shared) (H : Hp) (C : Addr) (cl : List (Str × Addr)) (fp : List Addr), ME (X.blk s H scope (compEnvC scope cl C X.env) fp) elt f) (hs : ∀ x, foldedSetIterable iter X.env x = pure x := by intro _; rfl) :
    MU X (.ListComp elt [⟨tg, iter, ifs, 0⟩] scope pos) (uLc it g t f (own.map (·.2))) :=
  ⟨PE.weak (pe_lc hc hN hi.pi ok hg (fun s H C cl fp => (ht s H C cl fp).pts) (fun s H C cl fp => (he s H C cl fp).pe) hs) fun _ _ _ h => lc_imp hgc h⟩
end
end ML

namespace ML
open PySem PySem.Spec PyProof.Rows L2

/-! ### statements -/
inductive Fl where
  | nx | rt (d : D) | bk | ct
abbrev SDen := En → Sto → Option (Fl × En × Sto)
/-- what is wanted behind a flow -/
def Wnt (G : Gx) (De : Ends) (ρ : List Lo) (S' : Sto) (env' : En) (fl : Fl) (σ' : L2.St) (H' : Hp) : Prop := match fl with
  | .nx => De.nx σ' H'
  | .bk => De.bk σ' H'
  | .ct => De.ct σ' H'
  | .rt d => ∀ v, Rp G ρ H' d v → De.rt v H'
def tS (G : Gx) (f : SDen) : TS := fun De σ H => ∃ ρ env S fl env' S', EnR G ρ H env σ ∧ SR G ρ H S ∧ f env S = some (fl, env', S') ∧ ∀ ρ' σ' H', Step ρ H ρ' H' → EnR G ρ' H' env' σ' → SR G ρ' H' S' → Wnt G De ρ' S' env' fl σ' H'
structure MS (X : Cx) (st : Stmt) (f : SDen) : Prop where
  ps : PS X st (tS (gx X) f)
structure MSs (X : Cx) (st : List Stmt) (f : SDen) : Prop where
  pss : PSs X st (tS (gx X) f)
theorem PS.weak {X : Cx} {e : Stmt} {t t' : TS} (h : PS X e t) (hw : ∀ D σ H, t' D σ H → t D σ H) : PS X e t' := ⟨fun pins s σ H Q I q => h.run pins s σ H Q I (hw Q σ H q)⟩
theorem PSs.weak {X : Cx} {e : List Stmt} {t t' : TS} (h : PSs X e t) (hw : ∀ D σ H, t' D σ H → t D σ H) : PSs X e t' := ⟨fun pins s σ H Q I q => h.run pins s σ H Q I (hw Q σ H q)⟩
theorem tS.bind {G : Gx} {f : SDen} {De : Ends} {σ : L2.St} {H : Hp} {ρ : List Lo} {env env' : En} {S S1 : Sto} {fl : Fl} (he : EnR G ρ H env σ) (hs : SR G ρ H S) (h : f env S = some (fl, env', S1))
    (k : ∀ ρ' σ' H', Step ρ H ρ' H' → EnR G ρ' H' env' σ' → SR G ρ' H' S1 → Wnt G De ρ' S1 env' fl σ' H') : tS G f De σ H := ⟨ρ, env, S, fl, env', S1, he, hs, h, k⟩
theorem bind3 {α β δ γ : Type} {o : Option (α × β × δ)} {k : α × β × δ → Option γ} {r : γ} (h : o.bind k = some r) : ∃ x y z, o = some (x, y, z) ∧ k (x, y, z) = some r := by
  obtain ⟨⟨x, y, z⟩, a, b⟩ := Option.bind_eq_some_iff.mp h
  exact ⟨x, y, z, a, b⟩
def sNil : SDen := fun env S => some (.nx, env, S)
def sCons (f g : SDen) : SDen := fun env S => (f env S).bind fun p => match p.1 with
  | .nx => g p.2.1 p.2.2
  | _ => some p
def sAsg (f : Den) (g : GDen) : SDen := fun env S => (f env S).bind fun p => (g p.1 env p.2).bind fun q => some (.nx, q.1, q.2)
def sAsgU (f : ADen) (i : Nat) : SDen := fun env S => (f env S).bind fun p => some (.nx, env.set i (some (.loc p.2.length)), p.2 ++ [.lst p.1])
def sPar (i j : Nat) (f : ADen) : SDen := fun env S => (f env S).bind fun p => match p.1 with
  | [a, b] => some (.nx, (env.set i (some a)).set j (some b), p.2)
  | _ => none
def sPar3 (i j l : Nat) (f : ADen) : SDen := fun env S => (f env S).bind fun p => match p.1 with
  | [a, b, c] => some (.nx, ((env.set i (some a)).set j (some b)).set l (some c), p.2)
  | _ => none
def sRet (f : Den) : SDen := fun env S => (f env S).bind fun p => some (.rt p.1, env, p.2)
def sRetN : SDen := fun env S => some (.rt .non, env, S)
def sExpr (f : Den) : SDen := fun env S => (f env S).bind fun p => some (.nx, env, p.2)
def sIf (t : TDen) (f g : SDen) : SDen := fun env S => (t env S).bind fun p => if p.1 = true then f env p.2 else g env p.2
def sBk : SDen := fun env S => some (.bk, env, S)
def sCt : SDen := fun env S => some (.ct, env, S)
def sAug (i : Nat) (g : Op2) (f : Den) : SDen := fun env S => match env[i]? with
  | some (some x) => (f env S).bind fun p => (g x p.1 p.2).bind fun q => some (.nx, env.set i (some q.1), q.2)
  | _ => none
/-- while, at most n tests -/
def wRun (t : TDen) (b : SDen) : Nat → En → Sto → Option (Fl × En × Sto)
  | 0, _, _ => none
  | n + 1, env, S => (t env S).bind fun p => if p.1 = true then (b env p.2).bind fun q => match q.1 with
      | .nx => wRun t b n q.2.1 q.2.2
      | .ct => wRun t b n q.2.1 q.2.2
      | .bk => some (.nx, q.2.1, q.2.2)
      | .rt d => some (.rt d, q.2.1, q.2.2)
    else some (.nx, env, p.2)
noncomputable section
open Classical
def sWhile (t : TDen) (b : SDen) : SDen := fun env S => if h : ∃ n, (wRun t b n env S).isSome = true then wRun t b (Classical.choose h) env S else none
def fRun (src : List (Nat × Ob)) (g : GDen) (b : SDen) : List D → En → Sto → Option (Fl × En × Sto)
  | [], env, S => if srcOk src S then some (.nx, env, S) else none
  | d :: ds, env, S => if srcOk src S then (g d env S).bind fun p => (b p.1 p.2).bind fun q => match q.1 with
      | .nx => fRun src g b ds q.2.1 q.2.2
      | .ct => fRun src g b ds q.2.1 q.2.2
      | .bk => some (.nx, q.2.1, q.2.2)
      | .rt d => some (.rt d, q.2.1, q.2.2)
    else none
def sFor (it : IDen) (g : GDen) (b : SDen) : SDen := fun env S => (it env S).bind fun p => fRun p.1.src g b p.1.ds env p.2
end
theorem wRun_mono {t : TDen} {b : SDen} : ∀ {n : Nat} {env : En} {S : Sto} {r : Fl × En × Sto}, wRun t b n env S = some r → wRun t b (n + 1) env S = some r
  | 0, _, _, _, h => by cases h
  | n + 1, env, S, r, h => by
    rw [wRun] at h ⊢
    obtain ⟨x, S1, h1, h2⟩ := bind2 h
    rw [h1]
    simp only [Option.bind_some]
    cases x with
    | true =>
      simp only [if_true] at h2 ⊢
      obtain ⟨fl, e, S2, h3, h4⟩ := bind3 h2
      rw [h3]
      simp only [Option.bind_some]
      cases fl with
      | nx => exact wRun_mono h4
      | ct => exact wRun_mono h4
      | bk => exact h4
      | rt d => exact h4
    | false => simpa using h2
theorem wRun_le {t : TDen} {b : SDen} {n m : Nat} (hl : n ≤ m) {env : En} {S : Sto} {r : Fl × En × Sto} (h : wRun t b n env S = some r) : wRun t b m env S = some r := by
  induction hl with
  | refl => exact h
  | step _ ih => exact wRun_mono ih
theorem sWhile_of {t : TDen} {b : SDen} {n : Nat} {env : En} {S : Sto} {r : Fl × En × Sto} (h : wRun t b n env S = some r) : sWhile t b env S = some r := by
  unfold sWhile
  have hx : ∃ n, (wRun t b n env S).isSome = true := ⟨n, by rw [h]; rfl⟩
  rw [dif_pos hx]
  obtain ⟨r', e⟩ := Option.isSome_iff_exists.mp (Classical.choose_spec hx)
  rw [e]
  have a := wRun_le (Nat.le_max_left (Classical.choose hx) n) e
  have c := wRun_le (Nat.le_max_right (Classical.choose hx) n) h
  rw [a] at c
  exact c
theorem sWhile_some {t : TDen} {b : SDen} {env : En} {S : Sto} {r : Fl × En × Sto} (h : sWhile t b env S = some r) : ∃ n, wRun t b n env S = some r := by
  unfold sWhile at h
  split at h
  · exact ⟨_, h⟩
  · cases h
/-- one turn of a while -/
theorem sWhile_eq (t : TDen) (b : SDen) (env : En) (S : Sto) : sWhile t b env S = (t env S).bind fun p => if p.1 = true then (b env p.2).bind fun q => match q.1 with
      | .nx => sWhile t b q.2.1 q.2.2
      | .ct => sWhile t b q.2.1 q.2.2
      | .bk => some (.nx, q.2.1, q.2.2)
      | .rt d => some (.rt d, q.2.1, q.2.2)
    else some (.nx, env, p.2) := by
  apply Option.ext
  intro r
  constructor
  · intro h
    obtain ⟨n, h⟩ := sWhile_some h
    cases n with
    | zero => cases h
    | succ n =>
      rw [wRun] at h
      obtain ⟨x, S1, h1, h2⟩ := bind2 h
      rw [h1]
      simp only [Option.bind_some]
      cases x with
      | true =>
        simp only [if_true] at h2 ⊢
        obtain ⟨fl, e, S2, h3, h4⟩ := bind3 h2
        rw [h3]
        simp only [Option.bind_some]
        cases fl with
        | nx => exact sWhile_of h4
        | ct => exact sWhile_of h4
        | bk => exact h4
        | rt d => exact h4
      | false => simpa using h2
  · intro h
    obtain ⟨x, S1, h1, h2⟩ := bind2 h
    cases x with
    | true =>
      simp only [if_true] at h2
      obtain ⟨fl, e, S2, h3, h4⟩ := bind3 h2
      have fin : ∀ {n}, (match fl with
        | .nx => wRun t b n e S2
        | .ct => wRun t b n e S2
        | .bk => some (.nx, e, S2)
        | .rt d => some (.rt d, e, S2)) = some r → sWhile t b env S = some r := by
        intro n hn
        refine sWhile_of (n := n + 1) ?_
        rw [wRun, h1]
        simp only [Option.bind_some, if_true]
        rw [h3]
        simp only [Option.bind_some]
        exact hn
      cases fl with
      | nx => obtain ⟨n, h5⟩ := sWhile_some h4; exact fin (n := n) h5
      | ct => obtain ⟨n, h5⟩ := sWhile_some h4; exact fin (n := n) h5
      | bk => exact fin (n := 0) h4
      | rt d => exact fin (n := 0) h4
    | false =>
      refine sWhile_of (n := 1) ?_
      rw [wRun, h1]
      simpa using h2

section
variable {X : Cx} {pos : Pos} {st : Stmt} {rest : List Stmt} {f g b : SDen} {e c : Expr} {fe : Den} {fu : ADen}
theorem mss_nil : MSs X [] sNil := ⟨PSs.weak pss_nil fun De σ H h => by
  obtain ⟨ρ, env, S, fl, env', S', he, hs, hf, q⟩ := h
  cases hf
  exact q ρ σ H (Step.refl _ _) he hs⟩
theorem mss_cons (h1 : MS X st f) (h2 : MSs X rest g) : MSs X (st :: rest) (sCons f g) := by
  refine ⟨PSs.weak (pss_cons h1.ps h2.pss) fun De σ H h => ?_⟩
  obtain ⟨ρ, env, S, fl, env', S', he, hs, hf, q⟩ := h
  obtain ⟨x, e1, S1, h1, h2⟩ := bind3 hf
  refine tS.bind he hs h1 fun ρ1 σ1 H1 st1 he1 sr1 => ?_
  cases x with
  | nx => exact tS.bind he1 sr1 h2 fun ρ2 σ2 H2 st2 he2 sr2 => q ρ2 σ2 H2 (st1.trans st2) he2 sr2
  | bk => cases h2; exact q ρ1 σ1 H1 st1 he1 sr1
  | ct => cases h2; exact q ρ1 σ1 H1 st1 he1 sr1
  | rt d => cases h2; exact q ρ1 σ1 H1 st1 he1 sr1
theorem ms_asg {tg : Expr} {g : GDen} (he : ME X e fe) (hg : MG X tg g) (hs : swapsWithSole [tg] e pos.line X.env = pure false := by rfl) (hw : swappedStores [tg] e X.env = pure none := by rfl)
    (h1 : (assignEach [tg] X.env).map (·.2) = [assign tg X.env] := by rfl) : MS X (.Assign [tg] e pos) (sAsg fe g) := by
  refine ⟨PS.weak (ps_asg he.pe hg.pg hs hw h1) fun De σ H h => ?_⟩
  obtain ⟨ρ, env, S, fl, env', S', he, hs, hf, q⟩ := h
  obtain ⟨x, S1, h1, h2⟩ := bind2 hf
  obtain ⟨env2, S2, h3, h4⟩ := bind2 h2
  cases h4
  exact tE.bind he hs h1 fun ρ1 v1 H1 st1 he1 sr1 r1 => tG.bind he1 sr1 r1 h3 fun ρ2 σ2 H2 st2 he2 sr2 => q ρ2 σ2 H2 (st1.trans st2) he2 sr2
theorem ms_set (i : Nat) {x : Str} {pos' : Pos} (hN : X.N.Nodup) (he : ME X e fe) (hi : X.N[i]? = some x := by rfl) (hx : Loc X.env.scope x := by first | exact Or.inl rfl | exact Or.inr rfl) (hs : swapsWith e (some (.Name x pos')) pos.line X.env = pure false := by rfl) (hf : X.fn x = true ∨ X.env.scope.names.lookup x = some .local := by first | exact .inl rfl | exact .inr rfl) :
    MS X (.Assign [.Name x pos'] e pos) (sAsg fe (gName i)) := by
  refine ⟨PS.weak (ps_set hN hi hx he.pe hs hf) fun De σ H h => ?_⟩
  obtain ⟨ρ, env, S, fl, env', S', he, hs, hf, q⟩ := h
  obtain ⟨y, S1, h1, h2⟩ := bind2 hf
  obtain ⟨env2, S2, h3, h4⟩ := bind2 h2
  cases h4
  cases h3
  exact tE.bind he hs h1 fun ρ1 v1 H1 st1 he1 sr1 r1 => q ρ1 _ H1 st1 (he1.set r1 i) sr1
/-- y = [..], stored within the comprehension -/
theorem ms_setLc (i : Nat) {y : Str} {py : Pos} {elt tg iter : Expr} {ifs : List Expr} {scope : Scope} {spos : Pos} {it : IDen} {g : GDen} {t : TDen} {f : Den} (own : List (Str × Nat)) {gg : TG} (hc : X.calm = true) (hN : X.N.Nodup)
    (hi : MI X tg iter it) (ok : BlkOk X.N X.env.scope scope own)
    (hg : ∀ (s : Shared) (H : Hp) (C : Addr) (cl : List (Str × Addr)) (fp : List Addr), PG (X.blk s H scope (compEnvC scope cl C X.env) fp) tg gg) (hgc : GC (gx X) gg g (own.map (·.2)))
    (ht : ∀ (s : Shared) (H : Hp) (C : Addr) (cl : List (Str × Addr)) (fp : List Addr), MTs (X.blk s H scope (compEnvC scope cl C X.env) fp) ifs t)
    (he : ∀ (s : Shared) (H : Hp) (C : Addr) (cl : List (Str × Addr)) (fp : List Addr), ME (X.blk s H scope (compEnvC scope cl C X.env) fp) elt f)
    (hy : X.N[i]? = some y := by rfl) (hyl : X.env.scope.names.lookup y = some .local := by rfl)
    (hsw : swapsWith (.ListComp elt [⟨tg, iter, ifs, 0⟩] scope pos) (some (.Name y py)) spos.line X.env = pure true := by exact sw_true rfl rfl rfl (by decide +kernel))
    (hs : ∀ x, foldedSetIterable iter X.env x = pure x := by intro _; rfl) :
    MS X (.Assign [.Name y py] (.ListComp elt [⟨tg, iter, ifs, 0⟩] scope pos) spos) (sAsgU (uLc it g t f (own.map (·.2))) i) := by
  refine ⟨PS.weak (ps_setLc (tt := tT (gx X) t) (te := tE (gx X) f) hc hN hy hyl hsw hi.pi ok hg (fun s H C cl fp => (ht s H C cl fp).pts) (fun s H C cl fp => (he s H C cl fp).pe) hs) fun De σ H h => ?_⟩
  obtain ⟨ρ, env, S, fl, env', S', he, hs, hf, q⟩ := h
  obtain ⟨ds, S1, h1, h2⟩ := bind2 hf
  cases h2
  refine lc_imp hgc (tU.bind he hs h1 fun ρ1 p vs H1 st1 he1 sr1 r1 e1 f1 n1 => ?_)
  refine q (ρ1 ++ [(p, true)]) _ H1 (st1.take f1) ?_ (sr1.ownL n1 e1 r1)
  have z : EnR (gx X) (ρ1 ++ [(p, true)]) H1 env σ := he.step (st1.take f1)
  exact z.set (rp_loc sr1) i
theorem ms_par (i j : Nat) {x y : Str} {a b : Expr} {px py pt : Pos} {kt k2 pt2} (hc : X.calm = true) (hN : X.N.Nodup) (ha : MA X [a, b] fu) (hi : X.N[i]? = some x := by rfl) (hj : X.N[j]? = some y := by rfl) (hij : i ≠ j := by decide)
    (hx : X.env.scope.names.lookup x = some .local := by rfl) (hy : X.env.scope.names.lookup y = some .local := by rfl)
    (hw : swappedStores [.Tuple [.Name x px, .Name y py] kt pt] (.Tuple [a, b] k2 pt2) X.env = pure (some [x, y]) := by rfl)
    (hs : swapsWithSole [.Tuple [.Name x px, .Name y py] kt pt] (.Tuple [a, b] k2 pt2) pos.line X.env = pure false := by rfl) :
    MS X (.Assign [.Tuple [.Name x px, .Name y py] kt pt] (.Tuple [a, b] k2 pt2) pos) (sPar i j fu) := by
  refine ⟨PS.weak (ps_par hc hN hi hj hij hx hy ha.pa hw hs) fun De σ H h => ?_⟩
  obtain ⟨ρ, env, S, fl, env', S', he, hs, hf, q⟩ := h
  obtain ⟨ds, S1, h1, h2⟩ := bind2 hf
  refine tA.bind he hs h1 fun ρ1 vs H1 st1 he1 sr1 r1 => ?_
  simp only at h2
  split at h2
  · rename_i d1 d2
    cases h2
    obtain ⟨v, u, rfl, rv, ru⟩ := two_of r1
    exact ⟨v, u, rfl, q ρ1 _ H1 st1 ((he1.set rv i).set ru j) sr1⟩
  · cases h2
theorem ms_ret (he : ME X e fe) : MS X (.Return (some e) pos) (sRet fe) := by
  refine ⟨PS.weak (ps_ret he.pe) fun De σ H h => ?_⟩
  obtain ⟨ρ, env, S, fl, env', S', he, hs, hf, q⟩ := h
  obtain ⟨y, S1, h1, h2⟩ := bind2 hf
  cases h2
  exact tE.bind he hs h1 fun ρ1 v1 H1 st1 he1 sr1 r1 => q ρ1 σ H1 st1 he1 sr1 v1 r1
theorem ms_retN : MS X (.Return none pos) sRetN := by
  refine ⟨PS.weak ps_retN fun De σ H h => ?_⟩
  obtain ⟨ρ, env, S, fl, env', S', he, hs, hf, q⟩ := h
  cases hf
  exact q ρ σ H (Step.refl _ _) he hs _ rp_of_non
theorem ms_expr (he : ME X e fe) (hs : swapsWith e none pos.line X.env = pure false := by rfl) : MS X (.Expr e pos) (sExpr fe) := by
  refine ⟨PS.weak (ps_expr he.pe hs) fun De σ H h => ?_⟩
  obtain ⟨ρ, env, S, fl, env', S', he, hs, hf, q⟩ := h
  obtain ⟨y, S1, h1, h2⟩ := bind2 hf
  cases h2
  exact tE.bind he hs h1 fun ρ1 v1 H1 st1 he1 sr1 r1 => q ρ1 σ H1 st1 he1 sr1
theorem ms_if {t : TDen} {a b : List Stmt} (hc : MT X c t) (ha : MSs X a f) (hb : MSs X b g) : MS X (.If c a b pos) (sIf t f g) := by
  refine ⟨PS.weak (ps_if hc.pt ha.pss hb.pss) fun De σ H h => ?_⟩
  obtain ⟨ρ, env, S, fl, env', S', he, hs, hf, q⟩ := h
  obtain ⟨x, S1, h1, h2⟩ := bind2 hf
  refine tT.bind he hs h1 fun ρ1 H1 st1 he1 sr1 => ?_
  cases x with
  | true => exact tS.bind he1 sr1 h2 fun ρ2 σ2 H2 st2 he2 sr2 => q ρ2 σ2 H2 (st1.trans st2) he2 sr2
  | false => exact tS.bind he1 sr1 h2 fun ρ2 σ2 H2 st2 he2 sr2 => q ρ2 σ2 H2 (st1.trans st2) he2 sr2
theorem ms_while {t : TDen} {body : List Stmt} (hp : PassesOwn (model X.prog X.w) X.A X.env X.xe) (hc : MT X c t) (hb : MSs X body b) : MS X (.While c body [] pos) (sWhile t b) := by
  refine ⟨PS.weak (ps_while hp hc.pt hb.pss) fun De σ H h => ?_⟩
  obtain ⟨ρ, env, S, fl, env', S', he, hs, hf, q⟩ := h
  obtain ⟨n, hn⟩ := sWhile_some hf
  refine ⟨fun m σ1 H1 => ∃ ρ1 env1 S1, Step ρ H ρ1 H1 ∧ EnR (gx X) ρ1 H1 env1 σ1 ∧ SR (gx X) ρ1 H1 S1 ∧ wRun t b m env1 S1 = some (fl, env', S'), ⟨n, ρ, env, S, Step.refl _ _, he, hs, hn⟩, ?_⟩
  rintro m σ1 H1 ⟨ρ1, env1, S1, st1, he1, sr1, hr⟩
  cases m with
  | zero => cases hr
  | succ m =>
    rw [wRun] at hr
    obtain ⟨x, S2, h1, h2⟩ := bind2 hr
    refine tT.bind he1 sr1 h1 fun ρ2 H2 st2 he2 sr2 => ?_
    cases x with
    | true =>
      simp only [if_true] at h2 ⊢
      obtain ⟨fl2, env2, S3, h3, h4⟩ := bind3 h2
      refine ⟨fun σ' H' => ∃ ρ1 env1 S1, Step ρ H ρ1 H' ∧ EnR (gx X) ρ1 H' env1 σ' ∧ SR (gx X) ρ1 H' S1 ∧ wRun t b m env1 S1 = some (fl, env', S'), fun σ' H' w => ⟨m, Nat.lt_succ_self _, w⟩, tS.bind he2 sr2 h3 fun ρ3 σ3 H3 st3 he3 sr3 => ?_⟩
      have st := (st1.trans st2).trans st3
      cases fl2 with
      | nx => exact ⟨ρ3, env2, S3, st, he3, sr3, h4⟩
      | ct => exact ⟨ρ3, env2, S3, st, he3, sr3, h4⟩
      | bk => cases h4; exact q ρ3 σ3 H3 st he3 sr3
      | rt d => cases h4; exact q ρ3 σ3 H3 st he3 sr3
    | false =>
      cases h2
      exact q ρ2 σ1 H2 (st1.trans st2) he2 sr2
theorem ms_for {iter tg : Expr} {body : List Stmt} {it : IDen} {g : GDen} (hp : PassesOwn (model X.prog X.w) X.A X.env X.xe) (hc : X.calm = true) (hi : MI X tg iter it) (hg : MG X tg g) (hb : MSs X body b)
    (hs : ∀ x, foldedSetIterable iter X.env x = pure x := by intro _; rfl) : MS X (.For tg iter body [] pos) (sFor it g b) := by
  refine ⟨PS.weak (ps_for hp hc hi.pi hg.pg hb.pss hs) fun De σ H h => ?_⟩
  obtain ⟨ρ, env, S, fl, env', S', he, hs, hf, q⟩ := h
  obtain ⟨p, S1, h1, hf⟩ := bind2 hf
  refine ⟨ρ, env, S, p, S1, he, hs, h1, fun ρ1 H1 J st1 sr1 ir => ?_⟩
  have he1 := he.step st1
  refine ⟨fun i m σ2 H2 => m = p.ds.length - i ∧ i ≤ p.ds.length ∧ ∃ ρ2 env2 S2, Step ρ1 H1 ρ2 H2 ∧ EnR (gx X) ρ2 H2 env2 σ2 ∧ SR (gx X) ρ2 H2 S2 ∧ fRun p.src g b (p.ds.drop i) env2 S2 = some (fl, env', S'),
    ⟨p.ds.length, by simp, Nat.zero_le _, ρ1, env, S1, Step.refl _ _, he1, sr1, hf⟩, ?_⟩
  rintro i m σ2 H2 ⟨rfl, hil, ρ2, env2, S2, st2, he2, sr2, hr⟩
  by_cases hlt : i < p.ds.length
  · rw [List.drop_eq_getElem_cons hlt] at hr
    unfold fRun at hr
    split at hr
    · rename_i so
      obtain ⟨env3, S3, h3, hr⟩ := bind2 hr
      obtain ⟨fl4, env4, S4, h4, hr⟩ := bind3 hr
      refine .inr ⟨ir.goes i ρ2 H2 S2 hlt st2 sr2 so, fun σ2 H2 => i + 1 ≤ p.ds.length ∧ ∃ ρ2 env2 S2, Step ρ1 H1 ρ2 H2 ∧ EnR (gx X) ρ2 H2 env2 σ2 ∧ SR (gx X) ρ2 H2 S2 ∧ fRun p.src g b (p.ds.drop (i + 1)) env2 S2 = some (fl, env', S'),
        fun σ' H' w => ⟨p.ds.length - (i + 1), by omega, rfl, w.1, w.2⟩, fun x H3 y => ?_⟩
      obtain ⟨st3, sr3, d, hd, rd⟩ := ir.yields i ρ2 H2 S2 x H3 hlt st2 sr2 so y
      have ed : p.ds[i] = d := Option.some.inj ((List.getElem?_eq_getElem hlt).symm.trans hd)
      rw [ed] at h3
      refine tG.bind (he2.step st3) sr3 rd h3 fun ρ4 σ4 H4 st4 he4 sr4 => ?_
      refine tS.bind he4 sr4 h4 fun ρ5 σ5 H5 st5 he5 sr5 => ?_
      have st25 := (st3.trans st4).trans st5
      cases fl4 with
      | nx => exact ⟨by omega, ρ5, env4, S4, st2.trans st25, he5, sr5, hr⟩
      | ct => exact ⟨by omega, ρ5, env4, S4, st2.trans st25, he5, sr5, hr⟩
      | bk => cases hr; exact q ρ5 σ5 H5 (st1.trans (st2.trans st25)) he5 sr5
      | rt d => cases hr; exact q ρ5 σ5 H5 (st1.trans (st2.trans st25)) he5 sr5
    · cases hr
  · have e : i = p.ds.length := by omega
    subst e
    rw [List.drop_eq_nil_of_le (Nat.le_refl _)] at hr
    unfold fRun at hr
    split at hr
    · rename_i so
      cases hr
      exact .inl ⟨ir.stops ρ2 H2 S' st2 sr2 so, q ρ2 σ2 H2 (st1.trans st2) he2 sr2⟩
    · cases hr
end
end ML

namespace ML
open PySem PySem.Spec PyProof.Rows L2

/-! ### what a call leaves -/
mutual
def D.bel (n : Nat) : D → Bool
  | .loc l => decide (l < n)
  | .tup ds => D.belL n ds
  | _ => true
def D.belL (n : Nat) : List D → Bool
  | [] => true
  | d :: ds => D.bel n d && D.belL n ds
end
def Ob.bel (n : Nat) : Ob → Bool
  | .lst xs => D.belL n xs
  | .rol xs => D.belL n xs
  | .dk kvs => kvs.all fun p => p.2.bel n
  | .ins _ fs => fs.all fun p => p.2.bel n
/-- what the call made and nobody reaches is forgotten -/
def gc (n : Nat) (d : D) (S : Sto) : D × Sto := if (d.bel n && (S.take n).all fun o => o.bel n) = true then (d, S.take n) else (d, S)
def mkFn (np ns : Nat) (body : SDen) : Fn := fun ds S => if ds.length = np then (body (ds.map some ++ List.replicate (ns - np) none) S).bind fun p => match p.1 with
  | .rt d => some (gc S.length d p.2.2)
  | .nx => some (gc S.length .non p.2.2)
  | _ => none
  else none
section
variable {G : Gx} {ρ ρ' : List Lo} {H H' : Hp}
theorem take_get {α : Type} {l : List α} {n i : Nat} (h : i < n) : (l.take n)[i]? = l[i]? := by
  rw [List.getElem?_take, if_pos h]
mutual
theorem Rp.cut {n : Nat} : ∀ {d : D} {v : V}, d.bel n = true → Rp G ρ H d v → Rp G (ρ.take n) H d v
  | .non, _, _, h => by simpa [Rp] using h
  | .bl _, _, _, h => by simpa [Rp] using h
  | .int _, _, _, h => by simpa [Rp] using h
  | .str _, _, _, h => by simpa [Rp] using h
  | .ty _, _, _, h => by simpa [Rp] using h
  | .fn _, _, _, h => by simpa [Rp] using h
  | .loc l, _, b, h => by
    simp only [Rp] at h ⊢
    obtain ⟨a, e, r⟩ := h
    exact ⟨a, by rw [take_get (by simpa [D.bel] using b)]; exact e, r⟩
  | .tup ds, _, b, h => by
    simp only [Rp] at h ⊢
    obtain ⟨a, vs, e, q, r⟩ := h
    exact ⟨a, vs, e, q, RpL.cut (by simpa [D.bel] using b) r⟩
theorem RpL.cut {n : Nat} : ∀ {ds : List D} {vs : List V}, D.belL n ds = true → RpL G ρ H ds vs → RpL G (ρ.take n) H ds vs
  | [], _, _, h => by simpa [RpL] using h
  | d :: ds, _, b, h => by
    simp only [D.belL, Bool.and_eq_true] at b
    simp only [RpL] at h ⊢
    obtain ⟨v, r, e, q, t⟩ := h
    exact ⟨v, r, e, Rp.cut b.1 q, RpL.cut b.2 t⟩
end
theorem RpK.cut {n : Nat} : ∀ {ds : List (Key × D)} {vs : List (Key × V)}, (ds.all fun p => p.2.bel n) = true → RpK G ρ H ds vs → RpK G (ρ.take n) H ds vs
  | [], _, _, h => by simpa [RpK] using h
  | d :: ds, _, b, h => by
    simp only [List.all_cons, Bool.and_eq_true] at b
    simp only [RpK] at h ⊢
    obtain ⟨v, r, e, q, t⟩ := h
    exact ⟨v, r, e, Rp.cut b.1 q, RpK.cut b.2 t⟩
theorem RpF.cut {n : Nat} : ∀ {ds : List (Str × D)} {vs : List (Str × V)}, (ds.all fun p => p.2.bel n) = true → RpF G ρ H ds vs → RpF G (ρ.take n) H ds vs
  | [], _, _, h => by simpa [RpF] using h
  | d :: ds, _, b, h => by
    simp only [List.all_cons, Bool.and_eq_true] at b
    simp only [RpF] at h ⊢
    obtain ⟨v, r, e, q, t⟩ := h
    exact ⟨v, r, e, Rp.cut b.1 q, RpF.cut b.2 t⟩
theorem ObR.cut {n : Nat} {a : Addr} : ∀ {o : Ob}, o.bel n = true → ObR G ρ H a o → ObR G (ρ.take n) H a o
  | .lst ds, b, ⟨vs, e, r⟩ => ⟨vs, e, RpL.cut b r⟩
  | .rol ds, b, ⟨vs, e, r⟩ => ⟨vs, e, RpL.cut b r⟩
  | .dk kvs, b, ⟨vs, e, r⟩ => ⟨vs, e, RpK.cut b r⟩
  | .ins _ fs, b, ⟨C, dx, vs, g, e, r⟩ => ⟨C, dx, vs, g, e, RpF.cut b r⟩
theorem SR.cut {S : Sto} {n : Nat} (h : SR G ρ H S) (b : ((S.take n).all fun o => o.bel n) = true) : SR G (ρ.take n) H (S.take n) := by
  have hb := List.all_eq_true.mp b
  have lt : ∀ {l : Nat} {α : Type} {xs : List α} {x : α}, (xs.take n)[l]? = some x → l < n := fun {l α xs x} e => by
    have := (List.getElem?_eq_some_iff.mp e).1
    rw [List.length_take] at this
    omega
  refine ⟨by rw [List.length_take, List.length_take, h.len], fun l o a e e' => ?_, fun l o a e e' => ?_, fun l l' a e e' => ?_⟩
  · have hl := lt e
    have := hb o (List.mem_of_getElem? e)
    rw [take_get hl] at e e'
    exact ObR.cut this (h.obj l o a e e')
  · have hl := lt e
    rw [take_get hl] at e e'
    exact h.mu l o a e e'
  · rw [take_get (lt e)] at e
    rw [take_get (lt e')] at e'
    exact h.inj l l' a e e'
theorem Step.cut (s : Step ρ H ρ' H') : Step ρ H ρ H' := ⟨⟨List.prefix_refl _, s.tup, s.frz⟩, fun _ h => .inl h, s.oth⟩
theorem pre_take {α : Type} {l l' : List α} (h : l <+: l') : l'.take l.length = l := by
  obtain ⟨r, rfl⟩ := h
  simp
end
theorem rep_get {α : Type} {n i : Nat} {x y : α} (h : (List.replicate n x)[i]? = some y) : y = x := by
  have := List.mem_of_getElem? h
  exact (List.mem_replicate.mp this).2
theorem enr_start {G : Gx} {ρ : List Lo} {H : Hp} {ds : List D} {vs : List V} {N : List Str} (r : RpL G ρ H ds vs) : EnR G ρ H (ds.map some ++ List.replicate (N.length - ds.length) none) (L2.start N vs) := by
  have hl := r.length
  unfold L2.start
  refine ⟨by simp [hl], fun i d e => ?_⟩
  by_cases hi : i < ds.length
  · rw [List.getElem?_append_left (by simpa using hi), List.getElem?_map] at e
    have e1 : ds[i]? = some d := by
      cases q : ds[i]? with
      | none => rw [q] at e; cases e
      | some x => rw [q] at e; simpa using e
    obtain ⟨v, h1, h2⟩ := r.get e1
    refine ⟨v, ?_, h2⟩
    rw [List.getElem?_append_left (by simp [hl]; exact hi), List.getElem?_map, h1]
    rfl
  · rw [List.getElem?_append_right (by simpa using hi)] at e
    have := rep_get e
    cases this
section
variable {P : Program} {w : World} {K : PySem.W.Frag} {mg : Str → Option Value} {base : Heap} {x qual : Str} {params : Arguments} {body : List Stmt} {scope : Scope} {f : Addr} {fd : FuncData} {N ps : List Str} {k : Nat} {b : SDen}
/-- a def keeps what its body's function tells -/
theorem fn_ok (F : FunD K x qual params body scope [] [] f fd) (Sc : FnScope N ps scope)
    (h : ∀ (cdv : Value) (A : Around) (outer : List Env) (s : Shared) (H : Hp) (E : XK), Room k (A.deeper (envOfC qual scope s.heap.objs.size f cdv)) → MSs (cxOf CX0 P w K mg base N qual scope f cdv A outer s H E).nox body b) :
    FnOk P w K mg base CX0 (k + 1) f fd ps (spD ⟨K, mg⟩ (mkFn ps.length N.length b)) := by
  refine F.ok Sc (fun vs H Q E hs => ?_) (fun cdv A outer s H vs Q E hr hs => ?_)
  · obtain ⟨ρ, S, ds, d, S', hs, r, hf, q⟩ := hs
    unfold mkFn at hf
    split at hf
    · rename_i hl
      rw [r.length, hl]
    · cases hf
  · refine ⟨_, ((h cdv A outer s H E hr).pss).nox, ?_⟩
    obtain ⟨ρ, S, ds, d, S', hs, r, hf, q⟩ := hs
    unfold mkFn at hf
    split at hf
    · rename_i hl
      obtain ⟨fl, env', S1, h1, h2⟩ := bind3 hf
      have he := enr_start (N := N) r
      rw [hl] at he
      refine tS.bind he hs h1 fun ρ' σ' H' st he' sr => ?_
      have fin : ∀ {d0 : D} {v : V}, Rp ⟨K, mg⟩ ρ' H' d0 v → gc S.length d0 S1 = (d, S') → Q v H' := by
        intro d0 v rv hg
        unfold gc at hg
        split at hg
        · rename_i hb
          rw [Bool.and_eq_true] at hb
          cases hg
          have e : ρ'.take S.length = ρ := by rw [← hs.len]; exact pre_take st.pre
          have a1 := rv.cut hb.1
          have a2 := sr.cut hb.2
          rw [e] at a1 a2
          exact q ρ v H' st.cut a2 a1
        · cases hg
          exact q ρ' v H' st sr rv
      cases fl with
      | nx => exact fin (d0 := .non) rp_of_non (Option.some.inj h2)
      | rt d0 => exact fun v rv => fin rv (Option.some.inj h2)
      | bk => cases h2
      | ct => cases h2
    · cases hf
end
/-! ### isinstance -/
def tyN (S : Sto) : D → Option String
  | .non => some "NoneType"
  | .bl _ => some "bool"
  | .int _ => some "int"
  | .str _ => some "str"
  | .tup _ => some "tuple"
  | .loc l => match S[l]? with
    | some (.lst _) => some "list"
    | some (.rol _) => some "list"
    | some (.dk _) => some "dict"
    | _ => none
  | _ => none
theorem tyN_ok {G : Gx} {ρ : List Lo} {H : Hp} {S : Sto} (hs : SR G ρ H S) {d : D} {v : V} {n : String} (r : Rp G ρ H d v) (e : tyN S d = some n) : TyX G.K H v (.type n) := by
  cases d with
  | non => cases e; rw [rp_non r]; exact .base .non
  | bl b => cases e; rw [rp_bl r]; exact .base (.bl _)
  | int b => cases e; rw [rp_int r]; exact .base (.int _)
  | str b => cases e; rw [rp_str r]; exact .base (.str _)
  | tup ds =>
    cases e
    obtain ⟨a, vs, rfl, q, _⟩ := rp_vs r
    rcases q with (q | ⟨o, q⟩) | ⟨o, its, n, q, c, _⟩
    · exact .base (.tup q)
    · exact .fTuple q
    · exact .kTuple q c
  | loc l =>
    obtain ⟨a, hr, rfl⟩ := rp_lc r
    simp only [tyN] at e
    split at e
    · rename_i xs e1; cases e
      obtain ⟨vs, q, _⟩ := hs.obj _ _ _ e1 hr
      exact .base (.lst q)
    · rename_i xs e1; cases e
      obtain ⟨vs, q, _⟩ := hs.obj _ _ _ e1 hr
      rcases q with ⟨o, q⟩ | ⟨o, its, n, q, c, _⟩
      · exact .base (.frz q)
      · exact .kList q c
    · rename_i xs e1; cases e
      obtain ⟨vs, q, _⟩ := hs.obj _ _ _ e1 hr
      exact .base (.dK q)
    · cases e
  | ty _ => cases e
  | fn _ => cases e
/-- of one class, or of one of several -/
def kitAll (t : String) : List D → Option Bool
  | [] => some false
  | .ty c :: r => (kitB t c).bind fun b => (kitAll t r).map fun b' => b || b'
  | _ => none
def bIsi : Fn
  | [d, .ty c], S => (tyN S d).bind fun t => (kitB t c).map fun b => (.bl b, S)
  | [d, .tup cs], S => (tyN S d).bind fun t => (kitAll t cs).map fun b => (.bl b, S)
  | _, _ => none
def rIsiA (K : PySem.W.Frag) : List V → Hp → VK → Prop := fun xs H Q => ∃ (x : V) (tp : Addr) (cs : List V) (t : Value) (us : List Value) (b : Bool), xs = [x, .ref tp] ∧ SqT K H tp cs ∧ Paired ClsV cs us ∧ TyX K H x t ∧ PySem.W.kitAny K t us = some b ∧ Q (.bl b) H
theorem call_isiA {X : Cx} : CallR X (.builtin "isinstance") (rIsiA X.K) := by
  intro pins s σ H xs us Q I r h
  obtain ⟨x, tp, cs, t, ws, b, rfl, hT, k, ty, e, q⟩ := h
  obtain ⟨u1, u2, rfl, r1, r2⟩ := vals2 r
  cases (show u2 = Value.ref tp from r2)
  obtain ⟨P, Z, p, hx⟩ := kit_of I r1 ty
  obtain ⟨its, rv, ⟨o, h1, h2, n, h3⟩, _⟩ := I.tuple hT
  have e3 := ClsV.all k rv
  subst e3
  obtain ⟨oc, od, dt, sl⟩ := o
  simp only at h2 h3
  subst h2 h3
  exact PySem.W.kia_tup Z I.kIn p h1 e hx fun tk => ⟨.bl b, H, I.tok tk, rfl, q⟩
theorem kitAll_ok {G : Gx} {ρ : List Lo} {H : Hp} {t : String} : ∀ {cs : List D} {vs : List V} {b : Bool}, kitAll t cs = some b → RpL G ρ H cs vs → ∃ us, Paired ClsV vs us ∧ PySem.W.kitAny G.K (.type t) us = some b
  | [], vs, b, e, r => by
    cases e
    simp only [RpL] at r
    subst r
    exact ⟨[], .nil, kitAny_nil⟩
  | d :: cs, vs, b, e, r => by
    cases d with
    | ty c =>
      simp only [kitAll] at e
      obtain ⟨b1, h1, h2⟩ := Option.bind_eq_some_iff.mp e
      obtain ⟨b2, h3, h4⟩ := Option.map_eq_some_iff.mp h2
      subst h4
      simp only [RpL] at r
      obtain ⟨v, tl, rfl, rv, rt⟩ := r
      have : v = .ty c := by simpa only [Rp] using rv
      subst this
      obtain ⟨us, p1, p2⟩ := kitAll_ok h3 rt
      refine ⟨.type c :: us, .cons (.ty c) p1, kitAny_cons (kit_ty h1) (fun z => ?_) (fun z => by rw [z]; rfl)⟩
      rw [z, p2]; rfl
    | _ => cases e

theorem imp_isi {G : Gx} : ImpC G bIsi (fun xs H Q => rIsi G.K xs H Q ∨ rIsiA G.K xs H Q) := by
  rintro xs H Q ⟨ρ, S, ds, d, S', hs, r, h, q⟩
  unfold bIsi at h
  split at h
  · rename_i d0 c0
    obtain ⟨t, h1, h2⟩ := Option.bind_eq_some_iff.mp h
    obtain ⟨b, h3, h4⟩ := Option.map_eq_some_iff.mp h2
    cases h4
    obtain ⟨v, u, rfl, rv, ru⟩ := two_of r
    have : u = .ty c0 := by simpa only [Rp] using ru
    subst this
    exact .inl ⟨v, _, _, _, b, rfl, .ty _, tyN_ok hs rv h1, kit_ty h3, q ρ _ H (Step.refl _ _) hs (rp_of_bl _)⟩
  · obtain ⟨t, h1, h2⟩ := Option.bind_eq_some_iff.mp h
    obtain ⟨b, h3, h4⟩ := Option.map_eq_some_iff.mp h2
    cases h4
    obtain ⟨v, u, rfl, rv, ru⟩ := two_of r
    obtain ⟨a, cs, rfl, q1, l1⟩ := rp_vs ru
    obtain ⟨us, p1, p2⟩ := kitAll_ok (G := G) h3 l1
    exact .inr ⟨v, a, cs, _, us, b, rfl, q1, p1, tyN_ok hs rv h1, p2, q ρ _ H (Step.refl _ _) hs (rp_of_bl _)⟩
  · cases h
theorem call_isiAll {X : Cx} : CallR X (.builtin "isinstance") (fun xs H Q => rIsi X.K xs H Q ∨ rIsiA X.K xs H Q) := call_isi.or call_isiA

/-! ### in -/
def D.v? : D → Option V
  | .non => some .non
  | .bl b => some (.bl b)
  | .int i => some (.int i)
  | .str x => some (.str x)
  | _ => none
def vs? : List D → Option (List V)
  | [] => some []
  | d :: ds => d.v?.bind fun v => (vs? ds).map (v :: ·)
theorem v?_ok {G : Gx} {ρ : List Lo} {H : Hp} {d : D} {v u : V} (e : d.v? = some v) (r : Rp G ρ H d u) : u = v ∧ flatV v = true := by
  cases d <;> first | (cases e; simp only [Rp] at r; exact ⟨r, rfl⟩) | cases e
theorem vs?_ok {G : Gx} {ρ : List Lo} {H : Hp} : ∀ {ds : List D} {vs us : List V}, vs? ds = some vs → RpL G ρ H ds us → us = vs ∧ vs.all flatV = true
  | [], vs, us, e, r => by cases e; simp only [RpL] at r; exact ⟨r, rfl⟩
  | d :: ds, vs, us, e, r => by
    simp only [vs?] at e
    obtain ⟨v, h1, e⟩ := Option.bind_eq_some_iff.mp e
    obtain ⟨w, h2, e⟩ := Option.map_eq_some_iff.mp e
    subst e
    simp only [RpL] at r
    obtain ⟨u, t, rfl, ru, rt⟩ := r
    obtain ⟨a1, a2⟩ := v?_ok h1 ru
    obtain ⟨b1, b2⟩ := vs?_ok h2 rt
    exact ⟨by rw [a1, b1], by rw [List.all_cons, a2, b2]; rfl⟩
/-- x in a list, a tuple of flat things -/
def gInB (neg : Bool) (x : D) (ys : List D) : Option Bool := x.v?.bind fun v => (vs? ys).map fun vs => if neg = true then !inV v vs else inV v vs
def gIn (neg : Bool) : Op2
  | x, .tup ys, S => (gInB neg x ys).map fun b => (.bl b, S)
  | x, .loc l, S => (lsAt S l).bind fun ys => (gInB neg x ys).map fun b => (.bl b, S)
  | _, _, _ => none
theorem imp_in {G : Gx} {neg : Bool} : Imp2 G (gIn neg) (rIn G.K neg) := by
  rintro x y H Q ⟨ρ, S, d1, d2, d, S', hs, r1, r2, h, q⟩
  have key : ∀ {ys : List D} {vs : List V} {b : Bool}, gInB neg d1 ys = some b → RpL G ρ H ys vs → flatV x = true ∧ vs.all flatV = true ∧ (if neg = true then !inV x vs else inV x vs) = b := by
    intro ys vs b e l
    obtain ⟨v, h1, e⟩ := Option.bind_eq_some_iff.mp e
    obtain ⟨us, h2, e⟩ := Option.map_eq_some_iff.mp e
    obtain ⟨a1, a2⟩ := v?_ok h1 r1
    obtain ⟨b1, b2⟩ := vs?_ok h2 l
    subst a1 b1
    exact ⟨a2, b2, e⟩
  unfold gIn at h
  split at h
  · obtain ⟨b, h1, h2⟩ := Option.map_eq_some_iff.mp h
    cases h2
    obtain ⟨a, vs, rfl, q1, l1⟩ := rp_vs r2
    obtain ⟨k1, k2, k3⟩ := key h1 l1
    exact ⟨a, vs, rfl, .inr q1, k1, k2, by rw [k3]; exact q ρ _ H (Step.refl _ _) hs (rp_of_bl _)⟩
  · obtain ⟨ys, h0, h⟩ := Option.bind_eq_some_iff.mp h
    obtain ⟨b, h1, h2⟩ := Option.map_eq_some_iff.mp h
    cases h2
    obtain ⟨a, hr, rfl⟩ := rp_lc r2
    obtain ⟨a', vs, hr', q1, l1⟩ := lsAt_of hs h0
    rw [hr] at hr'; cases hr'
    obtain ⟨k1, k2, k3⟩ := key h1 l1
    exact ⟨a.1, vs, rfl, .inl q1, k1, k2, by rw [k3]; exact q ρ _ H (Step.refl _ _) hs (rp_of_bl _)⟩
  · cases h

/-! ### == of new lists -/
/-- [..] == [..], a list that nobody else holds on either side -/
def eEqU (neg : Bool) (f g : ADen) : Den := fun env S => (f env S).bind fun p => (g env p.2).bind fun q => (toPL p.1).bind fun x => (toPL q.1).bind fun y =>
  if SeqAt.shaped (.list x) && SeqAt.shaped (.list y) then some (.bl (if neg = true then !PyData.eqv (.list x) (.list y) else PyData.eqv (.list x) (.list y)), q.2) else none
section
variable {X : Cx} {a b : Expr} {fa fb : ADen} {fd : Den} {pos : Pos}
theorem tst_of {G : Gx} {r : R2} {ta tb : TE} {f : Den} {σ : L2.St} {H : Hp} {Q : Bool → Hp → Prop} (hi : ∀ Q, tE G f σ H Q → tOp r ta tb σ H Q) (h : tT G (asB f) σ H Q) : tTest (tOp r ta tb) σ H Q := by
  obtain ⟨ρ, env, S, k, S', he, hs, hf, q⟩ := h
  exact hi _ ⟨ρ, env, S, .bl k, S', he, hs, asB_some hf, fun ρ' v H' st sr rr => ⟨k, rp_bl rr, q ρ' H' st sr⟩⟩
end

/-! ### the law -/
theorem law_sp {G : Gx} {g : Fn} {ns : List Int} {H : Hp} {a : Addr} (hO : Only H) (hS : SqL G.K H a (ns.map V.int)) (h : ∃ S', g [.loc 0] [.rol (ns.map D.int)] = some (.bl true, S')) :
    spD G g [.ref a] H (fun v _ => v = .bl true) fun _ _ _ => False := by
  obtain ⟨S', e⟩ := h
  have rl : ∀ ns : List Int, RpL G [(a, false)] H (ns.map D.int) (ns.map V.int) := by
    intro ns
    induction ns with
    | nil => exact RpL.nil
    | cons n ns ih => exact RpL.cons (rp_of_int n) ih
  refine ⟨[(a, false)], [.rol (ns.map D.int)], [.loc 0], .bl true, S', ⟨rfl, fun l o b e1 e2 => ?_, fun l o b e1 e2 => ?_, fun l l' b e1 e2 => ?_⟩, ?_, e, fun ρ' v H' _ _ r => rp_bl r⟩
  · cases l with
    | zero => cases e1; cases e2; exact ⟨_, SqR.of hO hS, rl ns⟩
    | succ l => simp at e1
  · cases l with
    | zero => cases e1; cases e2; rfl
    | succ l => simp at e1
  · cases l with
    | zero => cases e1
    | succ l => simp at e1
  · refine RpL.one ?_
    simp only [Rp]
    exact ⟨(a, false), rfl, rfl⟩
end ML

namespace ML
open PySem PySem.Spec PyProof.Rows L2

/-- a def of the module, by its name -/
structure HasFn (P : Program) (w : World) (K : PySem.W.Frag) (mg : Str → Option Value) (base : Heap) (x : Str) (k : Nat) (g : Fn) : Prop where
  ex : ∃ (f : Addr) (fd : FuncData) (ps : List Str), mg x = some (.ref f) ∧ PySem.W.keepIn K (.ref f) = true ∧ Binds K fd ps [] ∧ FnOk P w K mg base CX0 k f fd ps (spD ⟨K, mg⟩ g)
def gAddI : Op2
  | .int i, .int j, S => some (.int (i + j), S)
  | _, _, _ => none
section
variable {X : Cx} {e a b c : Expr} {es : List Expr} {fe fa fb fc fo : Den} {fs fu : ADen} {x : Str} {p pos apos : Pos} {k k' i j l : Nat} {g : Fn}
theorem me_callF (F : HasFn X.prog X.w X.K X.mg X.base x k g) (hr : Room k' X.A) (ha : MA X (e :: es) fs) (hk : k ≤ k' := by decide) (hg : Gl X x := by rfl)
    (hdb : (x == ("__debug__" : Str)) = false := by decide) (he : starEach (e :: es) X.env = (false, eval e X.env) :: starEach es X.env := by rfl) (hpl : (backTo pos (starEach es X.env)).any (·.1) = false := by rfl) :
    ME X (.Call (.Name x p) (e :: es) [] pos) (eCall g fs) := by
  obtain ⟨f, fd, ps, h1, h2, h3, h4⟩ := F.ex
  exact me_call h4 hr hk hg h1 h2 h3 ha hdb he hpl
/-- a slice of a tuple, a list -/
def eSl (f : Den) (l h : ODen) : Den := fun env S => (f env S).bind fun p => (l env p.2).bind fun q => (h env q.2).bind fun r => match p.1 with
  | .tup xs => some (.tup (cutD xs q.1 r.1), r.2)
  | .loc m => (lsAt r.2 m).map fun xs => (.loc r.2.length, r.2 ++ [.lst (cutD xs q.1 r.1)])
  | _ => none
theorem me_sl {lo hi : Option Expr} {fl fh : ODen} {p2 : Pos} (ha : ME X a fa) (hl : MO X lo fl) (hh : MO X hi fh) : ME X (.Subscript a (.Slice lo hi none p2) pos) (eSl fa fl fh) := by
  refine ⟨PE.weak (pe_slice (SlR.or sl_tupA sl_list) ha.pe hl.po hh.po) fun σ H Q h => ?_⟩
  obtain ⟨ρ, env, S, d, S', he, hs, hf, q⟩ := h
  obtain ⟨x, S1, h1, hf⟩ := bind2 hf
  obtain ⟨y, S2, h2, hf⟩ := bind2 hf
  obtain ⟨z, S3, h3, hf⟩ := bind2 hf
  refine tE.bind he hs h1 fun ρ1 v1 H1 st1 he1 sr1 r1 => tO.bind he1 sr1 h2 fun ρ2 H2 st2 he2 sr2 => tO.bind he2 sr2 h3 fun ρ3 H3 st3 he3 sr3 => ?_
  have r3 := (r1.step st2).step st3
  have st := (st1.trans st2).trans st3
  cases x with
  | tup xs =>
    cases hf
    obtain ⟨p, vs, rfl, q1, l1⟩ := rp_vs r3
    refine .inl ⟨p, vs, rfl, q1, fun hw => ?_, fun hw p' hp => ?_⟩
    · have : cutD xs y z = xs := by
        unfold cutD
        rw [l1.length] at hw
        rw [hw.1, hw.2]; simp
      rw [this] at q
      exact q ρ3 _ H3 st sr3 r3
    · exact q ρ3 _ _ (st.trans (Step.untracked hp)) (sr3.untracked hp) (rp_tup hp (cut_L l1))
  | loc m =>
    obtain ⟨xs, h4, h5⟩ := Option.map_eq_some_iff.mp hf
    cases h5
    obtain ⟨p, hr, rfl⟩ := rp_lc r3
    obtain ⟨p', vs, hr', q1, l1⟩ := lsAt_of sr3 h4
    rw [hr] at hr'; cases hr'
    exact .inr ⟨p.1, vs, rfl, q1, fun t ht => q _ _ _ (st.trans (Step.newloc ht)) (sr3.newL ht (cut_L l1)) (rp_loc sr3)⟩
  | _ => cases hf
theorem mb_len (hm : X.mg "len" = none) (ha : MA X (e :: es) fs) (hg : Gl X "len" := by rfl) (he : starEach (e :: es) X.env = (false, eval e X.env) :: starEach es X.env := by rfl) (hpl : (backTo pos (starEach es X.env)).any (·.1) = false := by rfl) : ME X (.Call (.Name "len" p) (e :: es) [] pos) (eCall bLen fs) :=
  me_callB (call_len) imp_len hg hm (by decide +kernel) ha (by decide) (by decide) he hpl
theorem mb_abs (hm : X.mg "abs" = none) (ha : MA X (e :: es) fs) (hg : Gl X "abs" := by rfl) (he : starEach (e :: es) X.env = (false, eval e X.env) :: starEach es X.env := by rfl) (hpl : (backTo pos (starEach es X.env)).any (·.1) = false := by rfl) : ME X (.Call (.Name "abs" p) (e :: es) [] pos) (eCall bAbs fs) :=
  me_callB (call_abs) imp_abs hg hm (by decide +kernel) ha (by decide) (by decide) he hpl
theorem mb_int (hm : X.mg "int" = none) (ha : MA X (e :: es) fs) (hg : Gl X "int" := by rfl) (he : starEach (e :: es) X.env = (false, eval e X.env) :: starEach es X.env := by rfl) (hpl : (backTo pos (starEach es X.env)).any (·.1) = false := by rfl) : ME X (.Call (.Name "int" p) (e :: es) [] pos) (eCall bInt fs) :=
  me_callTy (call_int1) imp_int hg hm (by decide +kernel) ha (by decide) (by decide) he hpl
theorem mb_tuple (hm : X.mg "tuple" = none) (ha : MA X (e :: es) fs) (hg : Gl X "tuple" := by rfl) (he : starEach (e :: es) X.env = (false, eval e X.env) :: starEach es X.env := by rfl) (hpl : (backTo pos (starEach es X.env)).any (·.1) = false := by rfl) : ME X (.Call (.Name "tuple" p) (e :: es) [] pos) (eCall bTuple fs) :=
  me_callTy (call_tuple_of) imp_tuple hg hm (by decide +kernel) ha (by decide) (by decide) he hpl
theorem mb_isi (hm : X.mg "isinstance" = none) (ha : MA X (e :: es) fs) (hg : Gl X "isinstance" := by rfl) (he : starEach (e :: es) X.env = (false, eval e X.env) :: starEach es X.env := by rfl) (hpl : (backTo pos (starEach es X.env)).any (·.1) = false := by rfl) : ME X (.Call (.Name "isinstance" p) (e :: es) [] pos) (eCall bIsi fs) :=
  me_callB (call_isiAll) imp_isi hg hm (by decide +kernel) ha (by decide) (by decide) he hpl
theorem mbu_tuple (hm : X.mg "tuple" = none) (ha : MU X e fu) (hg : Gl X "tuple" := by rfl) (hs : starEach [e] X.env = (false, eval e X.env) :: starEach [] X.env := by rfl) (hpl : (backTo pos (starEach [] X.env)).any (·.1) = false := by rfl) : ME X (.Call (.Name "tuple" p) [e] [] pos) (eU gTupU fu) :=
  me_callTyU (call_tuple_of) impU_tup hg hm (by decide +kernel) ha (by decide) (by decide) hs hpl
theorem mbu_all (hc : X.calm = true) (hm : X.mg "all" = none) (ha : MU X e fu) (hg : Gl X "all" := by rfl) (hs : starEach [e] X.env = (false, eval e X.env) :: starEach [] X.env := by rfl) (hpl : (backTo pos (starEach [] X.env)).any (·.1) = false := by rfl) : ME X (.Call (.Name "all" p) [e] [] pos) (eU gAllU fu) :=
  me_callBU (cr_all hc) impU_all hg hm (by decide +kernel) ha (by decide) (by decide) hs hpl
theorem mbu_sum (hc : X.calm = true) (hm : X.mg "sum" = none) (ha : MU X e fu) (hg : Gl X "sum" := by rfl) (hs : starEach [e] X.env = (false, eval e X.env) :: starEach [] X.env := by rfl) (hpl : (backTo pos (starEach [] X.env)).any (·.1) = false := by rfl) : ME X (.Call (.Name "sum" p) [e] [] pos) (eU gSumU fu) :=
  me_callBU (cr_sum hc) impU_sum hg hm (by decide +kernel) ha (by decide) (by decide) hs hpl
theorem mm_append (ho : ME X c fo) (ha : MA X (e :: es) fs)
    (hbase : attributeBase c "append" X.env (eval c X.env) = eval c X.env := by rfl)
    (hfew : ((backTo pos (starEach (e :: es) X.env)).all (fun x => !x.1) && (backToKw pos (keywordEach [] X.env)).all (fun x => x.1.isSome)
      && decide ((e :: es).length + ([] : List Keyword).length + (if ([] : List Keyword).isEmpty then 0 else 1) < 30)) = true := by rfl)
    (hline : (apos.endLine == pos.line) = true := by rfl) (hs : starEach (e :: es) X.env = (false, eval e X.env) :: starEach es X.env := by rfl) (hplain : (backTo pos (starEach es X.env)).any (·.1) = false := by rfl) : ME X (.Call (.Attribute c "append" apos) (e :: es) [] pos) (eMt mAppend fo fs) :=
  me_bm PySem.F.slot_list_append PySem.F.type_list_append mt_append imp_append ho ha hbase hfew hline hs hplain
theorem me_lt (ha : ME X a fa) (hb : ME X b fb) : ME X (.Compare a [.Lt] [b] pos) (eOp cLt fa fb) := me_cmp (op_lt) imp_cmp ha hb (nomark _)
theorem mt_lt (ha : ME X a fa) (hb : ME X b fb) : MT X (.Compare a [.Lt] [b] pos) (asB (eOp cLt fa fb)) := mt_cmp (op_lt) imp_cmp ha hb (nomark _)
theorem me_le (ha : ME X a fa) (hb : ME X b fb) : ME X (.Compare a [.LtE] [b] pos) (eOp cLe fa fb) := me_cmp (op_le) imp_cmp ha hb (nomark _)
theorem me_gt (ha : ME X a fa) (hb : ME X b fb) : ME X (.Compare a [.Gt] [b] pos) (eOp cGt fa fb) := me_cmp (op_gt) imp_cmp ha hb (nomark _)
theorem mt_gt (ha : ME X a fa) (hb : ME X b fb) : MT X (.Compare a [.Gt] [b] pos) (asB (eOp cGt fa fb)) := mt_cmp (op_gt) imp_cmp ha hb (nomark _)
theorem me_ge (ha : ME X a fa) (hb : ME X b fb) : ME X (.Compare a [.GtE] [b] pos) (eOp cGe fa fb) := me_cmp (op_ge) imp_cmp ha hb (nomark _)
theorem mt_ge (ha : ME X a fa) (hb : ME X b fb) : MT X (.Compare a [.GtE] [b] pos) (asB (eOp cGe fa fb)) := mt_cmp (op_ge) imp_cmp ha hb (nomark _)
theorem me_eq (hu : X.A.units + 64 < cLine) (ha : ME X a fa) (hb : ME X b fb) : ME X (.Compare a [.Eq] [b] pos) (eOp cEq fa fb) := me_cmp (op_eqD hu) imp_eq ha hb (nomark _)
theorem mt_eq (hu : X.A.units + 64 < cLine) (ha : ME X a fa) (hb : ME X b fb) : MT X (.Compare a [.Eq] [b] pos) (asB (eOp cEq fa fb)) := mt_cmp (op_eqD hu) imp_eq ha hb (nomark _)
theorem me_ne (hu : X.A.units + 64 < cLine) (ha : ME X a fa) (hb : ME X b fb) : ME X (.Compare a [.NotEq] [b] pos) (eOp cNe fa fb) := me_cmp (op_neD hu) imp_ne ha hb (nomark _)
theorem mt_ne (hu : X.A.units + 64 < cLine) (ha : ME X a fa) (hb : ME X b fb) : MT X (.Compare a [.NotEq] [b] pos) (asB (eOp cNe fa fb)) := mt_cmp (op_neD hu) imp_ne ha hb (nomark _)
theorem mt_is (ha : ME X a fa) (hb : ME X b fb) : MT X (.Compare a [.Is] [b] pos) (asB (eOp cIs fa fb)) := mt_cmp (op_isA) imp_is ha hb (nomark _)
theorem me_isNot (ha : ME X a fa) (hb : ME X b fb) : ME X (.Compare a [.IsNot] [b] pos) (eOp cIsNot fa fb) := me_cmp (op_isNotA) imp_isNot ha hb (nomark _)
theorem me_in (ha : ME X a fa) (hb : ME X b fb) (hm : behindInMarks .In b = false := by rfl) : ME X (.Compare a [.In] [b] pos) (eOp (gIn false) fa fb) := me_cmp op_in_seq imp_in ha hb hm
theorem mt_in (ha : ME X a fa) (hb : ME X b fb) (hm : behindInMarks .In b = false := by rfl) : MT X (.Compare a [.In] [b] pos) (asB (eOp (gIn false) fa fb)) := mt_cmp op_in_seq imp_in ha hb hm
theorem mt_notIn (ha : ME X a fa) (hb : ME X b fb) (hm : behindInMarks .NotIn b = false := by rfl) : MT X (.Compare a [.NotIn] [b] pos) (asB (eOp (gIn true) fa fb)) := mt_cmp op_notIn_seq imp_in ha hb hm
end
end ML

namespace ML
open PySem PySem.Spec PyProof.Rows L2
/-! ### constants of the module -/
mutual
def ckV (K : PySem.W.Frag) : D → Value → Bool
  | .non, .none => true
  | .bl b, .bool c => b == c
  | .int i, .int j _ => decide (i = j)
  | .str x, .str y _ => decide (x = y)
  | .tup ds, .ref a => match K.lookup a with
    | some ⟨.type c, _, .seq its _, _⟩ => decide (c = "tuple") && (decide (its.size ≤ sizeLine) && ckL K ds its.toList)
    | _ => false
  | _, _ => false
def ckL (K : PySem.W.Frag) : List D → List Value → Bool
  | [], [] => true
  | d :: ds, u :: us => ckV K d u && ckL K ds us
  | _, _ => false
end
mutual
theorem ckV_ok {K : PySem.W.Frag} : ∀ (d : D) (u : Value), ckV K d u = true → ∃ v, RelV v u ∧ ∀ mg ρ H, Rp ⟨K, mg⟩ ρ H d v
  | .non, .none, h => ⟨.non, rfl, fun _ _ _ => rp_of_non⟩
  | .bl b, .bool c, h => ⟨.bl b, by rw [beq_iff_eq.mp (show (b == c) = true from h)]; rfl, fun _ _ _ => rp_of_bl _⟩
  | .int i, .int j t, h => ⟨.int i, ⟨t, by rw [of_decide_eq_true (show decide (i = j) = true from h)]⟩, fun _ _ _ => rp_of_int _⟩
  | .str x, .str y t, h => ⟨.str x, ⟨t, by rw [of_decide_eq_true (show decide (x = y) = true from h)]⟩, fun _ _ _ => rp_of_str _⟩
  | .tup ds, .ref a, h => by
    rw [ckV] at h
    split at h
    · rename_i o c od its n sl q
      simp only [Bool.and_eq_true, decide_eq_true_eq] at h
      obtain ⟨rfl, h2, h3⟩ := h
      obtain ⟨vs, r, e⟩ := ckL_ok ds its.toList h3
      refine ⟨.ref a, rfl, fun mg ρ H => ?_⟩
      simp only [Rp]
      exact ⟨a, vs, rfl, .inr ⟨_, its, n, q, rfl, rfl, h2, r⟩, e mg ρ H⟩
    · cases h
theorem ckL_ok {K : PySem.W.Frag} : ∀ (ds : List D) (us : List Value), ckL K ds us = true → ∃ vs, Vals vs us ∧ ∀ mg ρ H, RpL ⟨K, mg⟩ ρ H ds vs
  | [], [], _ => ⟨[], .nil, fun _ _ _ => RpL.nil⟩
  | d :: ds, u :: us, h => by
    rw [ckL, Bool.and_eq_true] at h
    obtain ⟨v, r, e⟩ := ckV_ok d u h.1
    obtain ⟨vs, rs, es⟩ := ckL_ok ds us h.2
    exact ⟨v :: vs, .cons r rs, fun mg ρ H => RpL.cons (e mg ρ H) (es mg ρ H)⟩
  | [], _ :: _, h => by cases h
  | _ :: _, [], h => by cases h
end
def ckX (K : PySem.W.Frag) (p : Str × D) : Bool := match PySem.W.nsIn K mainGlobals p.1 with
  | some (some v) => ckV K p.2 v
  | _ => false
def obsX (fa : List He.Fa) (fn : List He.DefD) (cs : List (Str × D)) (K : PySem.W.Frag) : He.AlD := ((He.obsD fa fn K).1 && cs.all (ckX K), (He.obsD fa fn K).2)
def SaysX (fa : List He.Fa) (fn : List He.DefD) (cs : List (Str × D)) (K : PySem.W.Frag) : Prop := obsX fa fn cs K = He.valD fn
/-- the name x tells d -/
structure HasC (K : PySem.W.Frag) (mg : Str → Option Value) (x : Str) (d : D) : Prop where
  ex : ∃ u v, mg x = some u ∧ RelV v u ∧ ∀ ρ H, Rp ⟨K, mg⟩ ρ H d v
section
variable {fa : List He.Fa} {fn : List He.DefD} {cs : List (Str × D)} {K : PySem.W.Frag} {h : Heap} {mg : Str → Option Value}
theorem SaysX.d (c : SaysX fa fn cs K) : He.SaysD fa fn K := by
  have c1 : ((He.obsD fa fn K).1 && cs.all (ckX K)) = true := congrArg (fun z : He.AlD => z.1) c
  have c2 : (obsX fa fn cs K).2 = (He.valD fn).2 := by rw [show obsX fa fn cs K = He.valD fn from c]
  exact Prod.ext (Bool.and_eq_true_iff.mp c1).1 c2
theorem SaysX.cst (X : K.In h) (G : h.Ns mainGlobals mg) (c : SaysX fa fn cs K) (i : Nat) {x : Str} {d : D} (e : cs[i]? = some (x, d) := by rfl) : HasC K mg x d := by
  have c1 : ((He.obsD fa fn K).1 && cs.all (ckX K)) = true := congrArg (fun z : He.AlD => z.1) c
  have c2 := List.all_eq_true.mp (Bool.and_eq_true_iff.mp c1).2 _ (List.mem_of_getElem? e)
  unfold ckX at c2
  split at c2
  · rename_i v hv
    obtain ⟨u, r, z⟩ := ckV_ok d v c2
    exact ⟨v, u, PySem.W.mg_of X G hv, r, z mg⟩
  · cases c2
end
section
variable {X : Cx} {e a b : Expr} {es : List Expr} {fe fa fb : Den} {fs fu : ADen} {pos p : Pos}
theorem me_cst {x : Str} {d : D} (C : HasC X.K X.mg x d) (hg : Gl X x := by rfl) (hd : (x == ("__debug__" : Str)) = false := by decide) : ME X (.Name x pos) (eC d) := by
  obtain ⟨u, v, h1, h2, h3⟩ := C.ex
  exact me_glob hg h1 h2 h3 hd
/-- list(xs) -/
def uLi (f : Den) : ADen := fun env S => (f env S).bind fun p => match p.1 with
  | .tup xs => some (xs, p.2)
  | .loc m => (lsAt p.2 m).map fun xs => (xs, p.2)
  | _ => none
theorem mu_list (hm : X.mg "list" = none) (ha : ME X e fe) (hg : Gl X "list" := by rfl)
    (hs : starEach [e] X.env = (false, eval e X.env) :: starEach [] X.env := by rfl) (hpl : (backTo pos (starEach [] X.env)).any (·.1) = false := by rfl) : MU X (.Call (.Name "list" p) [e] [] pos) (uLi fe) := by
  refine ⟨PE.weak (pe_callTy call_list_of hg hm rfl (pa_cons ha.pe pa_nil hs) (by decide) (by decide) hs hpl) fun σ H Q h => ?_⟩
  obtain ⟨ρ, env, S, d, S', he, hs, hf, q⟩ := h
  obtain ⟨x, S1, h1, hf⟩ := bind2 hf
  refine tE.bind he hs h1 fun ρ1 v1 H1 st1 he1 sr1 r1 => ?_
  cases x with
  | loc m =>
    obtain ⟨xs, h4, h5⟩ := Option.map_eq_some_iff.mp hf
    cases h5
    obtain ⟨p, hr, rfl⟩ := rp_lc r1
    obtain ⟨p', vs, hr', q1, l1⟩ := lsAt_of sr1 h4
    rw [hr] at hr'; cases hr'
    refine ⟨p.1, vs, rfl, .inl q1, fun t ht => ?_⟩
    exact q ρ1 t _ _ (st1.trans (Step.untracked ht)) (sr1.untracked ht) (l1.step (Step.untracked ht)) upd_same (st1.free sr1 ht) (sr1.fresh ht)
  | tup xs =>
    cases hf
    obtain ⟨p, vs, rfl, q1, l1⟩ := rp_vs r1
    refine ⟨p, vs, rfl, .inr q1, fun t ht => ?_⟩
    exact q ρ1 t _ _ (st1.trans (Step.untracked ht)) (sr1.untracked ht) (l1.step (Step.untracked ht)) upd_same (st1.free sr1 ht) (sr1.fresh ht)
  | _ => cases hf
/-- str(i) -/
def bStr : Fn
  | [.int i], S => if i.natAbs.log2 < 1920 then some (.str (toString i), S) else none
  | [.str x], S => some (.str x, S)
  | _, _ => none
/-- {k: v} -/
def dKy : D → Option Key
  | .int i => some (.inl i)
  | .str x => some (.inr x)
  | _ => none
def eDk1 (f g : Den) : Den := fun env S => (f env S).bind fun p => (g env p.2).bind fun q => (dKy p.1).map fun k => (.loc q.2.length, q.2 ++ [.dk [(k, q.1)]])
theorem dKy_ok {G : Gx} {ρ : List Lo} {H : Hp} {d : D} {v : V} {k : Key} (r : Rp G ρ H d v) (e : dKy d = some k) : v = kV k := by
  cases d with
  | int i => cases e; exact rp_int r
  | str x => cases e; exact rp_str r
  | _ => cases e
theorem me_dk1 (ha : ME X a fa) (hb : ME X b fb) : ME X (.Dict [some a] [b] pos) (eDk1 fa fb) := by
  refine ⟨PE.weak (pe_disp (pps_cons ha.pe hb.pe pps_nil) rfl rfl (by simp) (by show 1 ≤ 15; decide)) fun σ H Q h => ?_⟩
  obtain ⟨ρ, env, S, d, S', he, hs, hf, q⟩ := h
  obtain ⟨x, S1, h1, hf⟩ := bind2 hf
  obtain ⟨y, S2, h2, hf⟩ := bind2 hf
  obtain ⟨k, h3, h4⟩ := Option.map_eq_some_iff.mp hf
  cases h4
  intro p hp
  have st0 : Step ρ H ρ (upd H p (.dK [])) := Step.untracked hp
  have np : (p, true) ∉ ρ := hs.fresh hp
  refine tE.bind (he.step st0) (hs.untracked hp) h1 fun ρ1 v1 H1 st1 he1 sr1 r1 => ?_
  refine tE.bind he1 sr1 h2 fun ρ2 v2 H2 st2 he2 sr2 r2 => ?_
  obtain ⟨e1, n1⟩ := st1.keepU upd_same np
  obtain ⟨e2, n2⟩ := st2.keepU e1 n1
  have ek := dKy_ok r1 h3
  refine ⟨e2, [(k, v2)], by rw [ek]; rfl, by show 1 ≤ 15; decide, ?_⟩
  have mk : mergeK [] [(k, v2)] = [(k, v2)] := rfl
  rw [mk]
  have st : Step ρ H ρ2 H2 := (st0.trans st1).trans st2
  have so : SR (gx X) (ρ2 ++ [(p, true)]) H2 (S2 ++ [.dk []]) := sr2.own n2 rfl ⟨[], e2, by simp only [RpK]⟩
  have hp2 : (ρ2 ++ [(p, true)])[S2.length]? = some (p, true) := by rw [List.getElem?_append_right (by rw [sr2.len]; exact Nat.le_refl _), sr2.len]; simp
  have sw := so.write (o := .dK [(k, v2)]) (ob' := .dk [(k, y)]) hp2 e2 (fun _ => nofun) (fun _ _ => nofun) rfl ⟨[(k, v2)], upd_same, by
    simp only [RpK]
    exact ⟨v2, [], rfl, (Rp.mon (Mon.ext (r := [(p, true)])) r2).step (Step.write (by simp) e2 (fun _ => nofun) (fun _ _ => nofun)), rfl⟩⟩
  have sw2 : SR (gx X) (ρ2 ++ [(p, true)]) (upd H2 p (.dK [(k, v2)])) (S2 ++ [.dk [(k, y)]]) := by
    have : (S2 ++ [Ob.dk []]).set S2.length (.dk [(k, y)]) = S2 ++ [.dk [(k, y)]] := by simp
    rw [← this]; exact sw
  exact q _ _ _ ((st.take hp).trans (Step.write (by simp) e2 (fun _ => nofun) (fun _ _ => nofun))) sw2 (rp_loc sr2)
end
end ML
namespace ML
open PySem PySem.Spec PyProof.Rows L2
end ML
namespace ML
open PySem PySem.Spec PyProof.Rows L2
/-! ### what is not reached: no answer, no promise -/
end ML

namespace ML
open PySem PySem.Spec PyProof.Rows L2
/-! ### tables of defs -/
/-- a told row of tables: the name, its keys with the defs' names -/
abbrev TabD : Type := Str × List (Str × Str)
abbrev AlY : Type := He.AlD × List (Option (List (Option (Str × Int))))
def ckT (K : PySem.W.Frag) (t : TabD) : Bool := He.eqO (PySem.W.nsIn K mainGlobals t.1) (some (some (.ref (He.ga K t.1)))) &&
  t.2.all fun q => He.eqO (PySem.W.nsIn K mainGlobals q.2) (some (some (.ref (He.ga K q.2)))) && He.eqO (PySem.W.nsIn K (He.ga K t.1) q.1) (some (some (.ref (He.ga K q.2))))
def obsY (fa : List He.Fa) (fn : List He.DefD) (cs : List (Str × D)) (ts : List TabD) (K : PySem.W.Frag) : AlY :=
  (((obsX fa fn cs K).1 && ts.all (ckT K), (obsX fa fn cs K).2), ts.map fun t => He.dicW K (He.ga K t.1))
def valY (fn : List He.DefD) (ts : List TabD) (w : World) : AlY := (He.valD fn, ts.map fun t => some (He.keysIn w.params (t.2.map (·.1))))
def SaysY (fa : List He.Fa) (fn : List He.DefD) (cs : List (Str × D)) (ts : List TabD) (w : World) (K : PySem.W.Frag) : Prop := obsY fa fn cs ts K = valY fn ts w
section
variable {fa : List He.Fa} {fn : List He.DefD} {cs : List (Str × D)} {ts : List TabD} {K : PySem.W.Frag} {h : Heap} {mg : Str → Option Value} {w : World}
theorem SaysY.x (c : SaysY fa fn cs ts w K) : SaysX fa fn cs K := by
  have c0 : obsY fa fn cs ts K = valY fn ts w := c
  have c1 : ((obsX fa fn cs K).1 && ts.all (ckT K)) = true := congrArg (fun z : AlY => z.1.1) c0
  have c2 : (obsX fa fn cs K).2 = (He.valD fn).2 := congrArg (fun z : AlY => z.1.2) c0
  exact Prod.ext (Bool.and_eq_true_iff.mp c1).1 c2
theorem SaysY.d (c : SaysY fa fn cs ts w K) : He.SaysD fa fn K := c.x.d
theorem SaysY.cst (X : K.In h) (G : h.Ns mainGlobals mg) (c : SaysY fa fn cs ts w K) (i : Nat) {x : Str} {d : D} (e : cs[i]? = some (x, d) := by rfl) : HasC K mg x d := c.x.cst X G i e
theorem lookup_in {α : Type} : ∀ {l : List (Str × α)} {z : Str} {f : α}, l.lookup z = some f → (z, f) ∈ l
  | (k, v) :: r, z, f, e => by
    rw [List.lookup_cons] at e
    split at e
    · rename_i hb
      cases e
      rw [beq_iff_eq.mp hb]
      exact List.mem_cons_self
    · exact List.mem_cons_of_mem _ (lookup_in e)
end
section
variable {X : Cx} {e a b c : Expr} {es : List Expr} {fe fa fb fc fo : Den} {fs fu : ADen} {x : Str} {p pos apos : Pos} {k k' i j l : Nat} {g : Fn}
/-- a call of a local that holds one of some defs -/
def eCallV (i : Nat) (tbl : List (Str × Fn)) (a : ADen) : Den := fun env S => match env[i]? with
  | some (some (.fn x)) => match tbl.lookup x with
    | some F => (a env S).bind fun p => F p.1 p.2
    | none => none
  | _ => none
/-- some defs -/
def HasFns (P : Program) (w : World) (K : PySem.W.Frag) (mg : Str → Option Value) (base : Heap) (k : Nat) : List (Str × Fn) → Prop
  | [] => True
  | p :: r => HasFn P w K mg base p.1 k p.2 ∧ HasFns P w K mg base k r
theorem HasFns.get {P : Program} {w : World} {K : PySem.W.Frag} {mg : Str → Option Value} {base : Heap} {k : Nat} : ∀ {l : List (Str × Fn)} {x : Str} {F : Fn}, HasFns P w K mg base k l → l.lookup x = some F → HasFn P w K mg base x k F
  | (y, G) :: r, x, F, h, e => by
    rw [List.lookup_cons] at e
    split at e
    · rename_i hb
      cases e
      rw [beq_iff_eq.mp hb]
      exact h.1
    · exact HasFns.get h.2 e
theorem HasFns.nil {P : Program} {w : World} {K : PySem.W.Frag} {mg : Str → Option Value} {base : Heap} {k : Nat} : HasFns P w K mg base k [] := True.intro
theorem HasFns.cons {P : Program} {w : World} {K : PySem.W.Frag} {mg : Str → Option Value} {base : Heap} {k : Nat} {x : Str} {F : Fn} {r : List (Str × Fn)} (h : HasFn P w K mg base x k F) (t : HasFns P w K mg base k r) : HasFns P w K mg base k ((x, F) :: r) := ⟨h, t⟩
theorem HasFn.mono {P : Program} {w : World} {K : PySem.W.Frag} {mg : Str → Option Value} {base : Heap} {k k' : Nat} {x : Str} {F : Fn} (h : HasFn P w K mg base x k F) (hk : k ≤ k' := by decide) : HasFn P w K mg base x k' F := by
  obtain ⟨f, fd, ps, h1, h2, h3, h4⟩ := h.ex
  exact ⟨f, fd, ps, h1, h2, h3, h4.mono hk⟩
theorem me_callV {y : Str} {tbl : List (Str × Fn)} (A : HasFns X.prog X.w X.K X.mg X.base k tbl) (hr : Room k' X.A) (ha : MA X (e :: es) fs) (hk : k ≤ k' := by decide) (hN : X.N[i]? = some y := by rfl) (hv : Vis X.env.scope y := by first | exact Or.inl rfl | exact Or.inr (Or.inl rfl) | exact Or.inr (Or.inr rfl))
    (hdb : (y == ("__debug__" : Str)) = false := by decide) (hcd : (y == ("__classdict__" : Str)) = false := by decide)
    (hse : starEach (e :: es) X.env = (false, eval e X.env) :: starEach es X.env := by rfl) (hpl : (backTo pos (starEach es X.env)).any (·.1) = false := by rfl) : ME X (.Call (.Name y p) (e :: es) [] pos) (eCallV i tbl fs) := by
  refine ⟨⟨fun pins s σ H Q I h => ?_⟩⟩
  obtain ⟨ρ, env, S, d, S', he, hs, hf, q⟩ := h
  unfold eCallV at hf
  split at hf
  · rename_i x hx
    split at hf
    · rename_i F hF
      obtain ⟨f, fd, ps, h1, h2, h3, h4⟩ := (A.get hF).ex
      obtain ⟨ds, S1, h5, hg⟩ := bind2 hf
      obtain ⟨v, e1, r1⟩ := he.at_ i _ hx
      simp only [Rp] at r1
      obtain ⟨u, e2, r2⟩ := r1
      have e2' : X.mg x = some u := e2
      rw [h1] at e2'
      cases e2'
      obtain rfl : v = .ref f := by
        cases v with
        | ref a => exact congrArg V.ref (by cases r2; rfl)
        | int _ => obtain ⟨_, z⟩ := (show ∃ t, _ = _ from r2); cases z
        | str _ => obtain ⟨_, z⟩ := (show ∃ t, _ = _ from r2); cases z
        | byt _ => obtain ⟨_, z⟩ := (show ∃ t, _ = _ from r2); cases z
        | flt _ => obtain ⟨_, z⟩ := (show ∃ t, _ = _ from r2); cases z
        | _ => cases (show Value.ref f = _ from r2)
      refine (pe_callL (i := i) (f := f) (sp := spD (gx X) F) (dvs := []) (E := fun _ _ _ => False) h4 (hr.mono hk) hN hv h2 h3 .nil pass0 ha.pa hdb hcd hse hpl).run pins s σ H Q I ⟨e1, ?_⟩
      refine ⟨ρ, env, S, ds, S1, he, hs, h5, fun ρ' vs H' st sr rr => ?_⟩
      show spD (gx X) F (vs ++ []) H' Q _
      rw [List.append_nil]
      exact ⟨ρ', S1, ds, d, S', sr, rr, hg, fun ρ2 v H2 st2 sr2 r2 => q ρ2 v H2 (st.trans st2) sr2 r2⟩
    · cases hf
  · cases hf
theorem me_fnH (F : HasFn X.prog X.w X.K X.mg X.base x k g) (hg : Gl X x := by rfl) (hd : (x == ("__debug__" : Str)) = false := by decide) : ME X (.Name x pos) (eC (.fn x)) := by
  obtain ⟨f, fd, ps, h1, h2, h3, h4⟩ := F.ex
  exact me_fn hg h1 hd
/-! ### list.reverse -/
theorem RpL.reverse {G : Gx} {ρ : List Lo} {H : Hp} : ∀ {ds : List D} {vs : List V}, RpL G ρ H ds vs → RpL G ρ H ds.reverse vs.reverse
  | [], _, h => by simp only [RpL] at h; subst h; exact RpL.nil
  | d :: ds, _, h => by
    simp only [RpL] at h
    obtain ⟨v, r, rfl, q, t⟩ := h
    rw [List.reverse_cons, List.reverse_cons]
    exact (RpL.reverse t).append (RpL.one q)
/-! ### enumerate, reversed -/
def enumD : Nat → List D → List D
  | _, [] => []
  | i, x :: xs => .tup [.int (i : Nat), x] :: enumD (i + 1) xs
theorem enumD_len : ∀ (i : Nat) (xs : List D), (enumD i xs).length = xs.length
  | _, [] => rfl
  | i, x :: xs => by rw [enumD, List.length_cons, enumD_len, List.length_cons]
theorem enumD_get : ∀ {xs : List D} {k i : Nat} {x : D}, xs[i]? = some x → (enumD k xs)[i]? = some (.tup [.int (k + i : Nat), x])
  | [], _, _, _, h => by simp at h
  | y :: ys, k, 0, x, h => by
    simp at h; subst h; simp [enumD]
  | y :: ys, k, i + 1, x, h => by
    rw [enumD, List.getElem?_cons_succ, enumD_get (by simpa using h), show k + 1 + i = k + (i + 1) by omega]
theorem rp_pairI {G : Gx} {ρ : List Lo} {H : Hp} {T : Addr} {i : Int} {d : D} {v : V} (hT : H T = none) (r : Rp G ρ H d v) : Rp G ρ (upd H T (.tup [.int i, v])) (.tup [.int i, d]) (.ref T) :=
  rp_tup hT (RpL.cons (rp_of_int _) (RpL.one r))
theorem oneL {G : Gx} {ρ : List Lo} {H : Hp} {d : D} {vs : List V} (h : RpL G ρ H [d] vs) : ∃ v, vs = [v] ∧ Rp G ρ H d v := by
  simp only [RpL] at h
  obtain ⟨v, r, rfl, q, rfl⟩ := h
  exact ⟨v, rfl, q⟩
/-! ### 1 << n, n.bit_length() -/
/-! ### unpacking a tuple or a list -/
def gTupL (n : Nat) (g : GsDen) : GDen
  | .tup ds, env, S => if ds.length = n then g ds env S else none
  | .loc l, env, S => match lsAt S l with
    | some ds => if ds.length = n then g ds env S else none
    | none => none
  | _, _, _ => none
theorem mg_tupL {gs : GsDen} {kk n : Nat} (hc : X.calm = true) (h : MGs X es gs) (hn : (assignEach es X.env).length = n := by rfl) (hst : (assignEach es X.env).findIdx? (·.1) = none := by rfl) : MG X (.Tuple es kk pos) (gTupL n gs) := by
  refine ⟨⟨fun pins s σ H v u Q I r hh => ?_⟩⟩
  obtain ⟨ρ, env, S, d, env', S', he, hs, hr, hf, q⟩ := hh
  cases d with
  | tup ds => exact (mg_tup hc h hn hst).pg.run pins s σ H v u Q I r ⟨ρ, env, S, .tup ds, env', S', he, hs, hr, hf, q⟩
  | loc l =>
    have hf2 : (match lsAt S l with
      | some ds => if ds.length = n then gs ds env S else none
      | none => none) = some (env', S') := hf
    split at hf2
    · rename_i ds e1
      split at hf2
      · rename_i hl
        obtain ⟨a, hr2, rfl⟩ := rp_lc hr
        obtain ⟨a', vs, hr', q1, l1⟩ := lsAt_of hs e1
        rw [hr2] at hr'; cases hr'
        exact (pg_unl hc h.pgs hn hst).run pins s σ H _ u Q I r ⟨a.1, vs, rfl, q1, by rw [l1.length]; exact hl, tGs.bind he hs l1 hf2 q⟩
      · cases hf2
    · cases hf2
  | _ => cases hf
end
end ML

namespace MZ
open PySem PySem.Spec PyProof.Rows L2 RZ
open PySem.Sem (wp)
/-- the turns through a list (false) or a tuple (true) -/
def KI (t : Bool) (h : Heap) (i l : Addr) (k : Nat) : Prop := match t with
  | true => h.IsTupleIter i l k
  | false => h.IsListIter i l k
def KS (t : Bool) (h : Heap) (l : Addr) (xs : Array Value) : Prop := match t with
  | true => h.IsTuple l xs
  | false => h.IsList l xs
def KC (t : Bool) : String := match t with
  | true => "tuple_iterator"
  | false => "list_iterator"
theorem KI.at {t : Bool} {h h' : Heap} {i l : Addr} {k : Nat} (x : KI t h i l k) (e : ∀ o, h.get? i = some o → h'.get? i = some o) : KI t h' i l k := by
  cases t
  · exact Heap.IsListIter.at x e
  · exact Heap.IsTupleIter.at x e
theorem KS.at {t : Bool} {h h' : Heap} {l : Addr} {xs : Array Value} (x : KS t h l xs) (e : ∀ o, h.get? l = some o → h'.get? l = some o) : KS t h' l xs := by
  cases t
  · exact Heap.IsList.at x e
  · exact Heap.IsTuple.at x e
theorem KI.ob {t : Bool} {h : Heap} {i l : Addr} {k : Nat} (x : KI t h i l k) : ∃ o, h.get? i = some o ∧ ∀ v, o.data ≠ .cell v := by
  cases t <;> exact (let ⟨o, e, _, d⟩ := x; ⟨o, e, fun v q => by rw [d] at q; cases q⟩)
theorem KI.lt {t : Bool} {h : Heap} {i l : Addr} {k : Nat} (x : KI t h i l k) : i < h.objs.size := by
  obtain ⟨o, e, _⟩ := x.ob
  exact Heap.lt_size e
theorem KS.lt {t : Bool} {h : Heap} {l : Addr} {xs : Array Value} (x : KS t h l xs) : l < h.objs.size := by
  cases t <;> exact (let ⟨_, e, _⟩ := x; Heap.lt_size e)
theorem KI.new {t : Bool} {h : Heap} {i l : Addr} (e : h.get? i = some { cls := .type (KC t), data := .fields #[.ref l, .int 0 0] }) : KI t h i l 0 := by
  cases t
  · exact ⟨_, e, rfl, rfl⟩
  · exact ⟨_, e, rfl, rfl⟩
abbrev IsArr (h : Heap) (T : Addr) (xs : Array Value) : Prop := h.get? T = some { cls := .type "tuple", data := .seq xs }
section
variable {prog : Program} {w : World} {A : Around} {E : Value → Shared → Prop} {s : Shared}
theorem k_item {t : Bool} {i l : Addr} {k : Nat} {xs : Array Value} {v : Value} {Q : Value → Shared → Prop} (hi : KI t s.heap i l k) (hl : KS t s.heap l xs) (hx : xs[k]? = some v)
    (q : ∀ h', KI t h' i l (k + 1) → Heap.SameBut i s.heap h' → Q v { s with heap := h' }) : wpAny (model prog w) A (Builtin.SmallTypes.nextOf (.ref i)) Q E s := by
  cases t
  · exact wpAny_nextOf_list_item hi hl hx q
  · exact nextOf_tuple_item hi hl hx q
theorem k_end {t : Bool} {i l : Addr} {k : Nat} {xs : Array Value} {Q : Value → Shared → Prop} (hh : A.handled = none) (hi : KI t s.heap i l k) (hl : KS t s.heap l xs) (hx : xs[k]? = none)
    (q : ∀ h' e, Heap.ExtBut i s.heap h' → (∃ o, h'.get? e = some o ∧ o.cls = .type "StopIteration") → E (.ref e) { s with heap := h' }) : wpAny (model prog w) A (Builtin.SmallTypes.nextOf (.ref i)) Q E s := by
  cases t
  · exact wpAny_nextOf_list_end hh hi hl hx q
  · exact nextOf_tuple_end hh hi hl hx q
end
/-- a list or a tuple of values -/
def Sq (K : PySem.W.Frag) (t : Bool) (H : Hp) (a : Addr) (xs : List V) : Prop := match t with
  | true => SqT K H a xs
  | false => SqL K H a xs
theorem sq_in {X : Cx} {pins : List (Addr × Obj)} {σ : L2.St} {H : Hp} {s : Shared} {t : Bool} {a : Addr} {xs : List V} (I : Inv X pins σ H s) (q : Sq X.K t H a xs) : ∃ its : List Value, Vals xs its ∧ KS t s.heap a its.toArray := by
  cases t
  · obtain ⟨its, rv, p, _⟩ := I.list q
    exact ⟨its, rv, p.isList⟩
  · obtain ⟨its, rv, p, _⟩ := I.tuple q
    exact ⟨its, rv, p⟩
theorem sq_inj {X : Cx} {pins : List (Addr × Obj)} {σ : L2.St} {H : Hp} {s : Shared} {t : Bool} {a : Addr} {xs ys : List V} (I : Inv X pins σ H s) (p : Sq X.K t H a xs) (q : Sq X.K t H a ys) : xs = ys := by
  cases t
  · exact I.list_inj p q
  · exact I.tuple_inj p q

section
variable {prog : Program} {w : World} {A : Around} {E : Value → Shared → Prop} {s : Shared}
end
section
variable {prog : Program} {w : World} {A : Around} {E : Value → Shared → Prop} {s : Shared}
end
section
variable {prog : Program} {w : World} {A : Around} {E : Value → Shared → Prop} {s : Shared}
end
section
variable {prog : Program} {w : World} {A : Around} {E : Value → Shared → Prop} {s : Shared}
end
end MZ

namespace MZ
open PySem PySem.Spec PyProof.Rows L2 RZ
open PySem.Sem (wp)
end MZ

namespace ML
open PySem PySem.Spec PyProof.Rows L2
def sqD (S : Sto) : D → Option (List D × List (Nat × Ob))
  | .tup xs => some (xs, [])
  | .loc l => match S[l]? with
    | some (.lst xs) => some (xs, [(l, .lst xs)])
    | _ => none
  | _ => none
theorem sqD_src {S : Sto} {d : D} {s : List D × List (Nat × Ob)} (h : sqD S d = some s) : srcOk s.2 S := by
  cases d with
  | tup xs => cases h; exact fun _ h => nomatch h
  | loc l =>
    simp only [sqD] at h
    split at h
    · next xs e =>
      cases h
      intro p hp
      rw [List.mem_singleton] at hp
      subst hp
      exact e
    · cases h
  | _ => cases h
theorem sqD_ok {G : Gx} {ρ : List Lo} {H : Hp} {S : Sto} {d : D} {v : V} {s : List D × List (Nat × Ob)} (sr : SR G ρ H S) (r : Rp G ρ H d v) (h : sqD S d = some s) :
    ∃ (t : Bool) (a : Addr), v = .ref a ∧ ∀ ρ2 H2 S2, Step ρ H ρ2 H2 → SR G ρ2 H2 S2 → srcOk s.2 S2 → ∃ vs, MZ.Sq G.K t H2 a vs ∧ RpL G ρ2 H2 s.1 vs := by
  cases d with
  | tup xs =>
    cases h
    obtain ⟨a, vs, rfl, q, l⟩ := rp_vs r
    exact ⟨true, a, rfl, fun ρ2 H2 S2 st _ _ => ⟨vs, st.seqT q, l.step st⟩⟩
  | loc l =>
    simp only [sqD] at h
    split at h
    · next xs e =>
      cases h
      obtain ⟨a, ha, rfl⟩ := rp_lc r
      refine ⟨false, a.1, rfl, fun ρ2 H2 S2 st sr2 so => ?_⟩
      obtain ⟨_, vs, hv, l1⟩ := sr2.lst (so (l, .lst xs) (by simp)) (pre_get st.pre ha)
      exact ⟨vs, .inl (.inl hv), l1⟩
    · cases h
  | _ => cases h
end ML

namespace MZ
open PySem PySem.Spec PyProof.Rows L2 RZ
open PySem.Sem (wp)
section
variable {prog : Program} {w : World} {A : Around} {E : Value → Shared → Prop} {s : Shared}
end
/-- a zip on its way through a list's making -/
def ZS3 (t1 t2 t3 : Bool) (z TI TO i1 i2 i3 a1 a2 a3 : Addr) (k : Nat) (h : Heap) : Prop :=
  (IsZip h z TI TO .none ∨ ∃ W b oW, IsZipHeld h z TI TO W b ∧ h.get? W = some oW ∧ W ∉ [z, TI, TO, i1, i2, i3] ∧ oW.cls = .type "tuple") ∧ IsArr h TI #[.ref i1, .ref i2, .ref i3] ∧ (∃ u1 u2 u3, IsArr h TO #[u1, u2, u3]) ∧ KI t1 h i1 a1 k ∧ KI t2 h i2 a2 k ∧ KI t3 h i3 a3 k
section
variable {X : Cx} {pins : List (Addr × Obj)} {σ : L2.St} {H : Hp} {s : Shared} {B : Around} {E : Value → Shared → Prop} {z TI TO i1 i2 i3 a1 a2 a3 : Addr} {t1 t2 t3 : Bool} {xs1 xs2 xs3 : List V} {k : Nat}
end
section
variable {X : Cx} {pins : List (Addr × Obj)} {σ : L2.St} {z TI TO i1 i2 i3 a1 a2 a3 q : Addr} {t1 t2 t3 : Bool} {xs1 xs2 xs3 : List V}
theorem ZS3.keep {h h' : Heap} {k : Nat} {oq : Obj} (st : ZS3 t1 t2 t3 z TI TO i1 i2 i3 a1 a2 a3 k h) (hq : h.get? q = some oq) (cq : oq.cls = .type "list") (nq : q ∉ [z, TI, TO, i1, i2, i3]) (kp : ∀ c o, c ≠ q → h.get? c = some o → h'.get? c = some o) : ZS3 t1 t2 t3 z TI TO i1 i2 i3 a1 a2 a3 k h' := by
  obtain ⟨hz, hTI, ⟨w1, w2, w3, hTO⟩, hI1, hI2, hI3⟩ := st
  have ne : ∀ c, c ∈ [z, TI, TO, i1, i2, i3] → c ≠ q := fun c hc e => nq (by rw [← e]; exact hc)
  refine ⟨?_, kp _ _ (ne _ (by simp)) hTI, ⟨_, _, _, kp _ _ (ne _ (by simp)) hTO⟩, hI1.at fun o e => kp _ o (ne _ (by simp)) e, hI2.at fun o e => kp _ o (ne _ (by simp)) e, hI3.at fun o e => kp _ o (ne _ (by simp)) e⟩
  rcases hz with hz | ⟨W, b, oW, hz, hW, nW, cW⟩
  · exact .inl (kp _ _ (ne _ (by simp)) hz)
  · refine .inr ⟨W, b, oW, kp _ _ (ne _ (by simp)) hz, kp _ _ (fun e => ?_) hW, nW, cW⟩
    rw [e, hq] at hW; cases hW; rw [cq] at cW; exact absurd cW (by decide)
end
end MZ

namespace ML
open PySem PySem.Spec PyProof.Rows L2
end ML

namespace ML
open PySem PySem.Spec PyProof.Rows L2
noncomputable def p_common_part : Fn := mkFn 2 2 (sCons (sPar 0 1 (aCons (eCall bAbs (aCons (eVar 0) aNil)) (aCons (eCall bAbs (aCons (eVar 1) aNil)) aNil))) (sCons (sWhile (tTru (eVar 1)) (sCons (sPar 0 1 (aCons (eVar 1) (aCons (eOp gMod (eVar 0) (eVar 1)) aNil))) sNil)) (sCons (sRet (eVar 0)) sNil)))
noncomputable def p_frac : Fn := mkFn 2 3 (sCons (sAsg (eCall p_common_part (aCons (eVar 0) (aCons (eVar 1) aNil))) (ML.gName 2)) (sCons (sIf (asB (eOp cLt (eVar 1) (eC (.int 0)))) (sCons (sAsg (eUn gNeg (eVar 2)) (ML.gName 2)) sNil) sNil) (sCons (sRet (eTup (aCons (eOp gFdiv (eVar 0) (eVar 2)) (aCons (eOp gFdiv (eVar 1) (eVar 2)) aNil)))) sNil)))
noncomputable def p_plus : Fn := mkFn 2 2 (sCons (sRet (eCall p_frac (aCons (eOp gAdd (eOp gMul (eOp gIx (eVar 0) (eC (.int 0))) (eOp gIx (eVar 1) (eC (.int 1)))) (eOp gMul (eOp gIx (eVar 1) (eC (.int 0))) (eOp gIx (eVar 0) (eC (.int 1))))) (aCons (eOp gMul (eOp gIx (eVar 0) (eC (.int 1))) (eOp gIx (eVar 1) (eC (.int 1)))) aNil)))) sNil)
noncomputable def p_minus : Fn := mkFn 2 2 (sCons (sRet (eCall p_frac (aCons (eOp gSub (eOp gMul (eOp gIx (eVar 0) (eC (.int 0))) (eOp gIx (eVar 1) (eC (.int 1)))) (eOp gMul (eOp gIx (eVar 1) (eC (.int 0))) (eOp gIx (eVar 0) (eC (.int 1))))) (aCons (eOp gMul (eOp gIx (eVar 0) (eC (.int 1))) (eOp gIx (eVar 1) (eC (.int 1)))) aNil)))) sNil)
noncomputable def p_times : Fn := mkFn 2 2 (sCons (sRet (eCall p_frac (aCons (eOp gMul (eOp gIx (eVar 0) (eC (.int 0))) (eOp gIx (eVar 1) (eC (.int 0)))) (aCons (eOp gMul (eOp gIx (eVar 0) (eC (.int 1))) (eOp gIx (eVar 1) (eC (.int 1)))) aNil)))) sNil)
noncomputable def p_sign : Fn := mkFn 1 1 (sCons (sRet (eOp gSub (eCall bInt (aCons (eOp cGt (eOp gIx (eVar 0) (eC (.int 0))) (eC (.int 0))) aNil)) (eCall bInt (aCons (eOp cLt (eOp gIx (eVar 0) (eC (.int 0))) (eC (.int 0))) aNil)))) sNil)
noncomputable def p_dot : Fn := mkFn 2 8 (sCons (sAsg (eTup (aCons (eVar 0) (aCons (eVar 1) aNil))) (ML.gTup 2 (ML.gCons (ML.gTup 3 (ML.gCons (ML.gName 2) (ML.gCons (ML.gName 3) (ML.gCons (ML.gName 4) ML.gNil)))) (ML.gCons (ML.gTup 3 (ML.gCons (ML.gName 5) (ML.gCons (ML.gName 6) (ML.gCons (ML.gName 7) ML.gNil)))) ML.gNil)))) (sCons (sRet (eCall p_plus (aCons (eCall p_plus (aCons (eCall p_times (aCons (eVar 2) (aCons (eVar 5) aNil))) (aCons (eCall p_times (aCons (eVar 3) (aCons (eVar 6) aNil))) aNil))) (aCons (eCall p_times (aCons (eVar 4) (aCons (eVar 7) aNil))) aNil)))) sNil))
end ML

namespace ML
open PySem PySem.Spec PyProof.Rows L2 RT
/-! ### reversed(list or tuple) -/
section
variable {X : Cx} {tg e : Expr} {p pos : Pos} {fe : Den}
end
end ML

namespace ML
open PySem PySem.Spec PyProof.Rows L2
end ML

namespace ML
open PySem PySem.Spec PyProof.Rows L2
/-! ### ranges as such: reversed(range(..)), list(range(..)) -/
abbrev RDen := En → Sto → Option ((Int × Int) × Sto)
section
variable {X : Cx} {tg e a b c : Expr} {fe fa fb : Den} {r : RDen} {p pos : Pos} {G : Gx} {ρ : List Lo} {H : Hp}
instance (a b : Int) : Decidable (RgOk a b) := by unfold RgOk; infer_instance
end
end ML

namespace MZ
open PySem PySem.Spec PyProof.Rows L2 RZ
open PySem.Sem (wp)
/-! ### enumerate of a list or a tuple -/
theorem k_draws {prog : Program} {w : World} {A : Around} (hh : A.handled = none) (t : Bool) (it l : Addr) (hne : l ≠ it) (items : Array Value) :
    Draws prog w A it [it, l] items.size (fun i v => items[i]? = some v) (fun i h => KI t h it l i ∧ KS t h l items) where
  live := fun _ _ st => let ⟨o, e, _⟩ := st.1.ob; ⟨o, e⟩
  frame := fun _ _ _ st hk => ⟨st.1.at fun o e => hk it (by simp) o e, st.2.at fun o e => hk l (by simp) o e⟩
  item := fun i s Q E hi st hQ => by
    refine k_item st.1 st.2 (v := items[i]) (by simp [hi]) fun h' hit' hs' => ?_
    exact hQ _ h' s.toks (by simp [hi]) ⟨hit', st.2.at fun o e => (hs'.2 l hne).trans e⟩ hs'
  done := fun s Q E st hE => k_end hh st.1 st.2 (by simp) hE
set_option maxHeartbeats 4000000 in
theorem meets_enum1 {v : Value} {o : Obj} {H : Heap → Prop} (B : Begins v o H) :
    Meets (Builtin.«enumerate.__new__» ⟨[.type "enumerate", v], []⟩) (fun _ R s => H s.heap ∧
      R (.ok (.ret (.ref (s.heap.push o).objs.size))) { s with heap := (s.heap.push o).push { cls := .type "enumerate", data := .fields #[.none, .bool false, .ref s.heap.objs.size, rawInt 0, .none, .none] } }) :=
  .of_wp fun prog w A R s h => by
    obtain ⟨hp, g, d, tk, os⟩ := s; obtain ⟨h1, h⟩ := h
    have hsub := sub_enumerate
    have q1 : ∀ {A' : Around} {E : Value → Shared → Prop} {Q : Value → Shared → Prop}, Q (.ref hp.objs.size) ⟨hp.push o, g, d, tk, os⟩ → wpAny (model prog w) A' (pyIter v) Q E ⟨hp, g, d, tk, os⟩ :=
      fun q => B.iter prog w _ _ ⟨hp, g, d, tk, os⟩ _ h1 q
    wp_walk using q1
    refine wpAny_stack_any fun st => wpAny_pure ?_
    split
    · rename_i c _ _ _ _ _
      cases (c == Value.type "enumerate")
      · wp_walk using q1
        exact ⟨_, rfl, h⟩
      · wp_walk using q1
        exact ⟨_, rfl, h⟩
    · wp_walk using q1
      exact ⟨_, rfl, h⟩
section
variable {prog : Program} {w : World} {A : Around} {E : Value → Shared → Prop} {s : Shared}
theorem call_enum1 {v : Value} {o : Obj} {H : Heap → Prop} {Q : Value → Shared → Prop} (B : Begins v o H) (h1 : H s.heap)
    (h : ∀ h', IsEnum h' (s.heap.objs.size + 1) s.heap.objs.size 0 .none → h'.get? s.heap.objs.size = some o → h'.objs.size = s.heap.objs.size + 2 →
      (∀ b o, s.heap.get? b = some o → h'.get? b = some o) → Q (.ref (s.heap.objs.size + 1)) { s with heap := h' }) :
    wpAny (model prog w) A (call (.type "enumerate") [v]) Q E s := by
  refine callType_new F.called_enumerate (by decide) (F.typeCall_enumerate_1 _) (F.newCall_enumerate_1 _) (fun obj => F.args_object_init_2 obj _) F.entry_enumerate_new
    (meets_enum1 B) ⟨h1, ?_⟩
  have hz : (s.heap.push o).objs.size = s.heap.objs.size + 1 := Heap.size_push ..
  show _ ∧ _
  rw [hz]
  have he : IsEnum ((s.heap.push o).push { cls := .type "enumerate", data := .fields #[.none, .bool false, .ref s.heap.objs.size, rawInt 0, .none, .none] }) (s.heap.objs.size + 1) s.heap.objs.size 0 .none := by
    have := Heap.get?_push_size (s.heap.push o) (o := { cls := .type "enumerate", data := .fields #[.none, .bool false, .ref s.heap.objs.size, rawInt 0, .none, .none] }) rfl
    rw [hz] at this; exact this
  refine ⟨⟨_, he, rfl⟩, h _ he (Heap.get?_push_of_some _ (Heap.get?_push_size _ B.free)) (by rw [Heap.size_push, hz]) fun b o x => Heap.get?_push_of_some _ (Heap.get?_push_of_some _ x)⟩
theorem k_begins (t : Bool) (l : Addr) (items : Array Value) : Begins (.ref l) { cls := .type (KC t), data := .fields #[.ref l, .int 0 0] } fun h => KS t h l items := by
  cases t
  · exact begins_list l items
  · exact begins_tuple l items
end
def Ite1 (K : PySem.W.Frag) (t : Bool) (a : Addr) : It :=
  ⟨fun i H => ∃ (xs : List V) (x : V), Sq K t H a xs ∧ xs[i]? = some x, fun i H v H' => ∃ T x, v = .ref T ∧ H T = none ∧ H' = upd H T (.tup [.int (i : Nat), x]) ∧ ∀ xs, Sq K t H a xs → xs[i]? = some x, fun i H => ∃ xs : List V, Sq K t H a xs ∧ xs.length ≤ i⟩
theorem turn_enum1 {P : Program} {w : World} {K : PySem.W.Frag} {elts : List Expr} {kk : Nat} {tpos : Pos} (t : Bool) (a e it : Addr) (hai : a ≠ it) (hae : a ≠ e) :
    Turn P w K (.Tuple elts kk tpos) (Ite1 K t a) [e, it] e (fun i h => (∃ old, IsEnum h e it ((i : Nat) : Int) old) ∧ KI t h it a i ∧ e ≠ it) where
  mem := by simp
  obj := fun i h st b hb => by
    obtain ⟨⟨old, he⟩, hi, _⟩ := st
    have e' : b = e ∨ b = it := by simpa using hb
    rcases e' with z | z
    · rw [z]; exact ⟨_, he, fun v q => nomatch q⟩
    · rw [z]; exact hi.ob
  keep := fun i h h' st k => let ⟨⟨old, he⟩, hi, hne⟩ := st; ⟨⟨old, k e (by simp) _ he⟩, hi.at fun o q => k it (by simp) o q, hne⟩
  item := by
    intro X hP hw hK hc i pins s σ H E I hf st hg
    subst hP hw hK
    obtain ⟨⟨old, he⟩, hit, hne⟩ := st
    obtain ⟨xs, x, hq, hx⟩ := hg
    obtain ⟨its, rv, p⟩ := sq_in I hq
    obtain ⟨u, hu, ru⟩ := rv.get hx
    have hel : e < s.heap.objs.size := Heap.lt_size he
    have hil : it < s.heap.objs.size := hit.lt
    have hlt : i < its.toArray.size := by
      have := (List.getElem?_eq_some_iff.mp hu).1
      simpa using this
    refine wpAny_pyNext_enum_itemC (k_draws (A := X.A.in1) (I.ok.hd hc) t it a hai its.toArray) he ⟨hit, p⟩ hlt hne (fun h => ?_) fun y h' tk hy ho hst' hT hsz hk => ?_
    · have : e = it ∨ e = a := by simpa using h
      rcases this with z | z
      · exact hne z
      · exact hae z.symm
    have hy : y = u := by
      have h1 : its.toArray[i]? = some y := hy
      have h2 : its.toArray[i]? = some u := by simpa using hu
      rw [h1] at h2; cases h2; rfl
    subst hy
    obtain ⟨hit', _⟩ := hst'
    refine ⟨_, rfl, wpAny_letOwnedTupleGo_enum (s := { s with heap := h', toks := tk + 1 }) ho fun h'' he' sb => ?_⟩
    have hT2 : h''.get? s.heap.objs.size = some { cls := .type "tuple", data := .seq #[.int i tk, y] } := (sb.2 _ (Nat.ne_of_gt hel)).trans hT
    have new : ObjOk X.prog X.w (upd H s.heap.objs.size (.tup [.int (i : Nat), x])) h'' s.heap.objs.size (.tup [.int (i : Nat), x]) :=
      ⟨by show 2 ≤ sizeLine; decide, [.int i tk, y], .cons ⟨_, rfl⟩ (.cons ru .nil), ⟨_, hT2, rfl, _, rfl⟩⟩
    have I1 : Inv X pins σ (upd H s.heap.objs.size (.tup [.int (i : Nat), x])) { s with heap := h'', toks := tk + 1 } :=
      I.turnedNew (ch := [e, it]) (fun b ob hb q => (sb.2 b (fun z => hb (by simp [z]))).trans (hk b ob (fun z => hb (by simp [z])) (fun z => hb (by simp [z])) q)) hf (Nat.le_refl _) new
    refine ⟨.ref s.heap.objs.size, _, I1, rfl, ⟨_, x, rfl, I.hok.fresh (Nat.le_refl _), rfl, fun ys hy => by rw [sq_inj I hy hq]; exact hx⟩, ⟨⟨y, ?_⟩, hit'.at fun o q => (sb.2 it (Ne.symm hne)).trans q, hne⟩, fun b hb => ?_⟩
    · have e1 : ((i + 1 : Nat) : Int) = (i : Int) + 1 := by omega
      rw [e1]; exact he'
    · have hb' : b < s.heap.objs.size := by
        have e' : b = e ∨ b = it := by simpa using hb
        rcases e' with z | z
        · rw [z]; exact hel
        · rw [z]; exact hil
      rw [upd_ne (Nat.ne_of_lt hb')]
      exact (hf b hb).1
  done := by
    intro X hP hw hK hc i pins s σ H E I hf st hg
    subst hP hw hK
    obtain ⟨⟨old, he⟩, hit, hne⟩ := st
    obtain ⟨xs, hq, hx⟩ := hg
    obtain ⟨its, rv, p⟩ := sq_in I hq
    obtain ⟨f0, f1, f2, f3, f4, f5⟩ := hf it (by simp)
    have hl := rv.length
    unfold pyNext
    have hT : s.TypeIs (.ref e) "enumerate" := ⟨_, he, rfl⟩
    refine wpAny_bind (wpAny_attempt (wpAny_callSpecial?_slot (name := Str.ofString "__next__") hT F.slot_enumerate_next
      (wpAny_call_entry F.slot_enumerate_next hT F.entry_enumerate_next ?_ (F.args_enumerate_next_1 _))))
    show wpAny _ _ (field (.ref e) 2 >>= _) _ _ _
    refine wpAny_bind (wpAny_field he rfl (x := .ref it) rfl ?_)
    refine wpAny_bind (k_end (xs := its.toArray) (A := X.A.in1) (I.ok.hd hc) hit p (by simp; omega) fun h' ee eb hs => ?_)
    obtain ⟨o, ho, hc2⟩ := hs
    refine wpAny_bind (wpAny_isInstance (T := "StopIteration") (b := true) ⟨o, ho, hc2⟩ isSubtype_stop ?_)
    exact wpAny_pure ⟨rfl, I.turned (t' := s.toks) (fun b o hb q => eb b o hb q) f0 f1 f3 f4 f5⟩
  self := fun A i s Q E st h => let ⟨⟨_, he⟩, _⟩ := st; wpAny_pyIter_enum he h
def iEnum1 (K : PySem.W.Frag) (ta : TA) : TI := fun σ H R => ta σ H fun vs H1 => ∃ t a xs, vs = [.ref a] ∧ Sq K t H1 a xs ∧ R (Ite1 K t a) H1
theorem pi_enum1 {X : Cx} {e : Expr} {ta : TA} {p pos tpos : Pos} {elts : List Expr} {kk : Nat} (hg : Gl X "enumerate") (hm : X.mg "enumerate" = none) (ha : PA X [e] ta) (hs : starEach [e] X.env = [(false, eval e X.env)] := by rfl) :
    PI X (.Tuple elts kk tpos) (.Call (.Name "enumerate" p) [e] [] pos) (iEnum1 X.K ta) := by
  refine ⟨fun pins s σ H R I h => ?_⟩
  refine Call_ (ld_blt I hg hm boot_enumerate (PyProof.Rows.callWith_type1 (thn (ha.run pos pins s σ H _ I h) fun us s1 ⟨vs, H1, I1, r1, q1⟩ => ?_) hs rfl))
  obtain ⟨t, a, xs, ex, hq, q⟩ := q1
  subst ex
  cases r1 with
  | cons r rr =>
    cases rr
    cases r
    obtain ⟨its, rv, p'⟩ := sq_in I1 hq
    have ha := p'.lt
    refine call_enum1 (k_begins t a its.toArray) p' fun h' he hit hsz hk => wpAny_pyIter_enum he ?_
    have I2 : Inv X pins σ H1 { s1 with heap := h' } := I1.kept (t' := s1.toks) hk
    refine ⟨s1.heap.objs.size + 1, [s1.heap.objs.size + 1, s1.heap.objs.size], _, _, H1, rfl, I2, turn_enum1 t a (s1.heap.objs.size + 1) s1.heap.objs.size (Nat.ne_of_lt ha) (Nat.ne_of_lt (Nat.lt_succ_of_lt ha)), ⟨⟨.none, he⟩, KI.new hit, Nat.succ_ne_self _⟩, fun b hb => ?_, q⟩
    have e' : b = s1.heap.objs.size + 1 ∨ b = s1.heap.objs.size := by simpa using hb
    have hle : s1.heap.objs.size ≤ b := by
      rcases e' with z | z
      · rw [z]; exact Nat.le_add_right _ _
      · rw [z]; exact Nat.le_refl _
    exact I1.fpOk hle (I1.hok.fresh hle)
end MZ
namespace ML
open PySem PySem.Spec PyProof.Rows L2
def iEnumA (f : ADen) : IDen := fun env S => (f env S).bind fun p => match p.1 with
  | [d] => (sqD p.2 d).bind fun s => some (⟨enumD 0 s.1, s.2⟩, p.2)
  | _ => none
theorem mi_enumA {X : Cx} {e : Expr} {fu : ADen} {p pos tpos : Pos} {elts : List Expr} {kk : Nat} (hg : Gl X "enumerate") (hm : X.mg "enumerate" = none) (ha : MA X [e] fu) (hs : starEach [e] X.env = [(false, eval e X.env)] := by rfl) : MI X (.Tuple elts kk tpos) (.Call (.Name "enumerate" p) [e] [] pos) (iEnumA fu) := by
  refine ⟨PI.weak (MZ.pi_enum1 hg hm ha.pa hs) fun σ H Q h => ?_⟩
  obtain ⟨ρ, env, S, it, S', he, hv, hf, q⟩ := h
  obtain ⟨x, S1, h1, hf⟩ := bind2 hf
  refine tA.bind he hv h1 fun ρ1 vs H1 st1 he1 sr1 r1 => ?_
  simp only at hf
  split at hf
  · rename_i d
    obtain ⟨s1, b1, hf⟩ := Option.bind_eq_some_iff.mp hf
    cases hf
    obtain ⟨v, rfl, rv⟩ := oneL r1
    obtain ⟨t1, a1, rfl, k1⟩ := sqD_ok sr1 rv b1
    obtain ⟨w1, y1, _⟩ := k1 ρ1 H1 _ (Step.refl _ _) sr1 (sqD_src b1)
    refine ⟨t1, a1, w1, rfl, y1, q ρ1 H1 _ st1 sr1 ⟨fun i ρ2 H2 S2 hi st sr so => ?_, fun ρ2 H2 S2 st sr so => ?_, fun i ρ2 H2 S2 x H3 hi st sr so y => ?_⟩⟩
    · obtain ⟨z1, q1, r1⟩ := k1 ρ2 H2 S2 st sr so
      rw [enumD_len] at hi
      exact ⟨z1, _, q1, List.getElem?_eq_getElem (by rw [r1.length]; omega)⟩
    · obtain ⟨z1, q1, r1⟩ := k1 ρ2 H2 S2 st sr so
      exact ⟨z1, q1, by rw [r1.length]; simp [enumD_len]⟩
    · obtain ⟨z1, q1, r1⟩ := k1 ρ2 H2 S2 st sr so
      obtain ⟨T, x1, rfl, hT, rfl, f1⟩ := y
      have hi' : i < s1.1.length := by simpa [enumD_len] using hi
      obtain ⟨o1, oa1, ob1⟩ := r1.get (List.getElem?_eq_getElem hi')
      rw [f1 _ q1] at oa1; cases oa1
      refine ⟨Step.untracked hT, sr.untracked hT, _, enumD_get (List.getElem?_eq_getElem hi'), ?_⟩
      rw [Nat.zero_add]
      exact rp_pairI hT ob1
  · cases hf
end ML

namespace ML
open PySem PySem.Spec PyProof.Rows L2
end ML

namespace ML
open PySem PySem.Spec PyProof.Rows L2
end ML

/-! repr of nested data: a law that is called with nothing under way -/
namespace ML
open PySem PySem.Spec PyProof.Rows L2
/-! ### the law's call, with what stands around it known -/
section
variable {P : Program} {w : World} {K : PySem.W.Frag} {mg : Str → Option Value} {base : Heap} {x qual : Str} {params : Arguments} {body : List Stmt} {scope : Scope} {f a : Addr} {fd : FuncData} {N ps : List Str} {k : Nat} {b : SDen} {A : Around}
end
section
variable {P : Program} {w : World} {K : PySem.W.Frag} {mg mb : Str → Option Value} {s : Shared} {a fa : Addr} {vs : List Value} {ns : List Int} {fd : FuncData} {x : Str} {sp : Sp}
end
/-! ### repr -/
section
variable {X : Cx} {e : Expr} {es : List Expr} {fs : ADen} {p pos : Pos}
end
end ML

/-! instances of classes: attributes read and stored, made, methods called -/
namespace ML
open PySem PySem.Spec PyProof.Rows L2
/-- a statement of a class's body -/
def memS (s : Stmt) (j : Nat) : Stmt := match s with
  | .ClassDef _ _ _ b _ _ _ _ _ _ _ => b.getD j s
  | _ => s
/-- a class of the module -/
structure IsCls (K : PySem.W.Frag) (mg : Str → Option Value) (c : Str) : Prop where
  ex : ∃ C, mg c = some (.ref C) ∧ Cls K C
/-- a name that no class of it has -/
structure NoAt (K : PySem.W.Frag) (mg : Str → Option Value) (c f : Str) : Prop where
  ex : ∃ C, mg c = some (.ref C) ∧ NoAttr K C f
/-- a method -/
structure HasMt (P : Program) (w : World) (K : PySem.W.Frag) (mg : Str → Option Value) (base : Heap) (c m : Str) (k : Nat) (g : Fn) : Prop where
  ex : ∃ (C f : Addr) (fd : FuncData) (ps : List Str), mg c = some (.ref C) ∧ Meth K C m f ∧ Binds K fd ps [] ∧ FnOk P w K mg base CX0 k f fd ps (spD ⟨K, mg⟩ g)
/-- how a class is made -/
structure HasMk (P : Program) (w : World) (K : PySem.W.Frag) (mg : Str → Option Value) (base : Heap) (c : Str) (k : Nat) (g : Fn) : Prop where
  ex : ∃ (C f : Addr) (fd : FuncData) (ps : List Str), mg c = some (.ref C) ∧ Mk K C f ∧ Binds K fd ps [] ∧ FnOk P w K mg base CX0 k f fd ps (spD ⟨K, mg⟩ g)
def putD (f : Str) (v : D) : List (Str × D) → List (Str × D)
  | [] => [(f, v)]
  | (g, x) :: r => if g = f then (g, v) :: r else (g, x) :: putD f v r
section
variable {G : Gx} {ρ ρ' : List Lo} {H H' : Hp}
theorem RpF.look {f : Str} {d : D} : ∀ {fs : List (Str × D)} {ws : List (Str × V)}, RpF G ρ H fs ws → fs.lookup f = some d → ∃ v, ws.lookup f = some v ∧ Rp G ρ H d v
  | [], _, _, e => by cases e
  | (g, x) :: r, _, h, e => by
    simp only [RpF] at h
    obtain ⟨v, t, rfl, q, h⟩ := h
    rw [List.lookup_cons] at e ⊢
    by_cases k : f == g
    · rw [k] at e ⊢
      cases e
      exact ⟨v, rfl, q⟩
    · rw [show (f == g) = false from by simpa using k] at e ⊢
      exact RpF.look h e
theorem RpF.none {f : Str} : ∀ {fs : List (Str × D)} {ws : List (Str × V)}, RpF G ρ H fs ws → fs.lookup f = none → ws.lookup f = none
  | [], _, h, _ => by simp only [RpF] at h; rw [h]; rfl
  | (g, x) :: r, _, h, e => by
    simp only [RpF] at h
    obtain ⟨v, t, rfl, q, h⟩ := h
    rw [List.lookup_cons] at e ⊢
    by_cases k : f == g
    · rw [k] at e
      cases e
    · rw [show (f == g) = false from by simpa using k] at e ⊢
      exact RpF.none h e
theorem RpF.put {f : Str} {d : D} {v : V} (q0 : Rp G ρ H d v) : ∀ {fs : List (Str × D)} {ws : List (Str × V)}, RpF G ρ H fs ws → RpF G ρ H (putD f d fs) (putF f v ws)
  | [], _, h => by
    simp only [RpF] at h
    rw [h]
    show RpF G ρ H [(f, d)] [(f, v)]
    simp only [RpF]
    exact ⟨v, [], rfl, q0, rfl⟩
  | (g, x) :: r, _, h => by
    simp only [RpF] at h
    obtain ⟨u, t, rfl, q, h⟩ := h
    unfold putD putF
    by_cases k : g = f
    · rw [if_pos k, if_pos k]
      simp only [RpF]
      exact ⟨v, t, rfl, q0, h⟩
    · rw [if_neg k, if_neg k]
      simp only [RpF]
      exact ⟨u, _, rfl, q, RpF.put q0 h⟩
theorem RpF.len : ∀ {fs : List (Str × D)} {ws : List (Str × V)}, RpF G ρ H fs ws → ws.length = fs.length
  | [], _, h => by simp only [RpF] at h; rw [h]; rfl
  | d :: ds, _, h => by
    simp only [RpF] at h
    obtain ⟨v, r, rfl, q, t⟩ := h
    rw [List.length_cons, List.length_cons, RpF.len t]
end
/-! ### attributes -/
def eFld (c f : Str) (fo : Den) : Den := fun env S => (fo env S).bind fun p => match p.1 with
  | .loc l => match p.2[l]? with
    | some (.ins c' fs) => if c' = c then (fs.lookup f).map fun d => (d, p.2) else none
    | _ => none
  | _ => none
def sAttr (c f : Str) (fv fo : Den) : SDen := fun env S => (fv env S).bind fun p => (fo env p.2).bind fun q => match q.1 with
  | .loc l => match q.2[l]? with
    | some (.ins c' fs) => if c' = c ∧ fs.length < 1000 then some (.nx, env, q.2.set l (.ins c (putD f p.1 fs))) else none
    | _ => none
  | _ => none
def eMake (c : Str) (g : Fn) (f : ADen) : Den := fun env S => (f env S).bind fun p => (g (.loc p.2.length :: p.1) (p.2 ++ [.ins c []])).bind fun r => match r.1 with
  | .non => some (.loc p.2.length, r.2)
  | _ => none
def eMeth (c m : Str) (g : Fn) (fo : Den) (f : ADen) : Den := fun env S => (fo env S).bind fun p => match p.1 with
  | .loc l => match p.2[l]? with
    | some (.ins c' fs) => if c' = c ∧ fs.lookup m = none then (f env p.2).bind fun q => g (.loc l :: q.1) q.2 else none
    | _ => none
  | _ => none
section
variable {X : Cx} {o e value : Expr} {es : List Expr} {fo fv : Den} {fs : ADen} {c f m x : Str} {pos pos' p apos : Pos} {k k' : Nat} {g : Fn}
theorem ins_of {G : Gx} {ρ : List Lo} {H : Hp} {S : Sto} (h : SR G ρ H S) {l : Nat} {fs : List (Str × D)} {v : V} (e : S[l]? = some (.ins c fs)) (r : Rp G ρ H (.loc l) v) : ∃ a C dx ws, v = .ref a ∧ ρ[l]? = some (a, true) ∧ G.mg c = some (.ref C) ∧ H a = some (.ins C dx ws) ∧ RpF G ρ H fs ws := by
  obtain ⟨a, hr, rfl⟩ := rp_lc r
  obtain ⟨C, dx, ws, e1, e2, e3⟩ := h.obj _ _ _ e hr
  have m := h.mu _ _ _ e hr
  obtain ⟨b, t⟩ := a
  have m : true = t := m
  subst m
  exact ⟨b, C, dx, ws, rfl, hr, e1, e2, e3⟩
theorem me_fld (ho : ME X o fo) (hc : IsCls X.K X.mg c) (hn : NoAt X.K X.mg c f) (hb : attributeBase o f X.env (eval o X.env) = eval o X.env := by rfl) : ME X (.Attribute o f pos) (eFld c f fo) := by
  refine ⟨PE.weak (pe_fld ho.pe hb) fun σ H Q h => ?_⟩
  obtain ⟨ρ, env, S, d, S', he, hs, hf, q⟩ := h
  obtain ⟨y, S1, h1, h2⟩ := bind2 hf
  refine tE.bind he hs h1 fun ρ1 v1 H1 st1 he1 sr1 r1 => ?_
  cases y with
  | loc l =>
    simp only at h2
    split at h2
    · rename_i c' fs e1
      split at h2
      · rename_i ec
        subst ec
        obtain ⟨d', hd, e2⟩ := Option.map_eq_some_iff.mp h2
        cases e2
        obtain ⟨a, C, dx, ws, rfl, hr, g1, g2, g3⟩ := ins_of sr1 e1 r1
        obtain ⟨C1, k1, k2⟩ := hc.ex
        obtain ⟨C2, k3, k4⟩ := hn.ex
        have i1 : C1 = C := by rw [show X.mg c' = some (.ref C) from g1] at k1; cases k1; rfl
        have i2 : C2 = C := by rw [show X.mg c' = some (.ref C) from g1] at k3; cases k3; rfl
        subst i1 i2
        obtain ⟨v, lv, rv⟩ := g3.look hd
        exact ⟨a, _, dx, ws, v, rfl, g2, k2, k4, lv, q ρ1 v H1 st1 sr1 rv⟩
      · cases h2
    · cases h2
  | _ => cases h2
theorem SR.setIns {G : Gx} {ρ : List Lo} {H : Hp} {S : Sto} (h : SR G ρ H S) {l : Nat} {a C dx : Addr} {fs : List (Str × D)} {ws : List (Str × V)} {d : D} {v : V} (hr : ρ[l]? = some (a, true)) (g1 : G.mg c = some (.ref C)) (g2 : H a = some (.ins C dx ws)) (g3 : RpF G ρ H fs ws) (rv : Rp G ρ H d v) :
    Step ρ H ρ (upd H a (.ins C dx (putF f v ws))) ∧ SR G ρ (upd H a (.ins C dx (putF f v ws))) (S.set l (.ins c (putD f d fs))) := by
  have st : Step ρ H ρ (upd H a (.ins C dx (putF f v ws))) := Step.write (List.mem_of_getElem? hr) g2 (fun _ => nofun) (fun _ _ => nofun)
  exact ⟨st, h.write hr g2 (fun _ => nofun) (fun _ _ => nofun) rfl ⟨C, dx, _, g1, upd_same, (g3.put rv).mon st.toMon⟩⟩
theorem ms_attr (hv : ME X value fv) (ho : ME X o fo) (hc : IsCls X.K X.mg c) (hn : NoAt X.K X.mg c f) (hs : swapsWith value (some (.Attribute o f pos')) pos.line X.env = pure false := by rfl) : MS X (.Assign [.Attribute o f pos'] value pos) (sAttr c f fv fo) := by
  refine ⟨PS.weak (ps_fld ho.pe hv.pe hs) fun De σ H h => ?_⟩
  obtain ⟨ρ, env, S, fl, env', S', he, hs, hf, q⟩ := h
  obtain ⟨y, S1, h1, hf⟩ := bind2 hf
  obtain ⟨z, S2, h2, h3⟩ := bind2 hf
  refine tE.bind he hs h1 fun ρ1 v1 H1 st1 he1 sr1 r1 => tE.bind he1 sr1 h2 fun ρ2 v2 H2 st2 he2 sr2 r2 => ?_
  cases z with
  | loc l =>
    simp only at h3
    split at h3
    · rename_i c' fs e1
      split at h3
      · rename_i ec
        obtain ⟨ec, el⟩ := ec
        subst ec
        cases h3
        obtain ⟨a, C, dx, ws, rfl, hr, g1, g2, g3⟩ := ins_of sr2 e1 r2
        obtain ⟨C1, k1, k2⟩ := hc.ex
        obtain ⟨C2, k3, k4⟩ := hn.ex
        have i1 : C1 = C := by rw [show X.mg c' = some (.ref C) from g1] at k1; cases k1; rfl
        have i2 : C2 = C := by rw [show X.mg c' = some (.ref C) from g1] at k3; cases k3; rfl
        subst i1 i2
        obtain ⟨st, sr⟩ := sr2.setIns (f := f) hr g1 g2 g3 (r1.step st2)
        have s3 := (st1.trans st2).trans st
        exact ⟨a, _, dx, ws, rfl, g2, k2, k4, by rw [g3.len]; exact el, q ρ2 σ _ s3 (he2.step st) sr⟩
      · cases h3
    · cases h3
  | _ => cases h3
theorem me_meth (ho : ME X o fo) (hc : IsCls X.K X.mg c) (F : HasMt X.prog X.w X.K X.mg X.base c m k g) (hr : Room k' X.A) (ha : MA X (e :: es) fs) (hk : k ≤ k' := by decide)
    (hst : starEach (e :: es) X.env = (false, eval e X.env) :: starEach es X.env := by rfl) (hpl : (backTo pos (starEach es X.env)).any (·.1) = false := by rfl) {pl : Sem Bool}
    (ht : eval (.Call (.Attribute o m apos) (e :: es) [] pos) X.env = (do
      let ov ← eval o X.env
      standAt apos.atName
      let (f, first) ← holding [ov] (getMethod ov m pl)
      callWith pos f first (backTo pos (starEach (e :: es) X.env)) (backToKw pos (keywordEach [] X.env))) := by rfl) : ME X (.Call (.Attribute o m apos) (e :: es) [] pos) (eMeth c m g fo fs) := by
  obtain ⟨C, f, fd, ps, h1, h2, h3, h4⟩ := F.ex
  obtain ⟨C1, k1, k2⟩ := hc.ex
  have i1 : C1 = C := by rw [h1] at k1; cases k1; rfl
  subst i1
  refine ⟨PE.weak (pe_meth ho.pe k2 h2 h4 (hr.mono hk) h3 .nil pass0 ha.pa hst hpl ht) fun σ H Q h => ?_⟩
  obtain ⟨ρ, env, S, d, S', he, hs, hf, q⟩ := h
  obtain ⟨y, S1, e1, e2⟩ := bind2 hf
  refine tE.bind he hs e1 fun ρ1 v1 H1 st1 he1 sr1 r1 => ?_
  cases y with
  | loc l =>
    simp only at e2
    split at e2
    · rename_i c' fs' eo
      split at e2
      · rename_i ec
        obtain ⟨ec, el⟩ := ec
        subst ec
        obtain ⟨xs, S2, e3, e4⟩ := bind2 e2
        obtain ⟨a, C2, dx, ws, rfl, hr, g1, g2, g3⟩ := ins_of sr1 eo r1
        have i2 : C2 = C1 := by rw [show X.mg c' = some (.ref C2) from g1] at h1; cases h1; rfl
        subst i2
        refine ⟨a, dx, ws, rfl, g2, g3.none el, tA.bind he1 sr1 e3 fun ρ2 vs H2 st2 he2 sr2 r2 => ?_⟩
        rw [List.append_nil]
        exact ⟨ρ2, S2, .loc l :: xs, d, S', sr2, RpL.cons (r1.step st2) r2, e4, fun ρ' v H' st sr rr => q ρ' v H' ((st1.trans st2).trans st) sr rr⟩
      · cases e2
    · cases e2
  | _ => cases e2
theorem make_run {G : Gx} {C : Addr} {ρ : List Lo} {H : Hp} {S S' : Sto} {xs : List D} {vs : List V} {Q : VK} {E : XK} (hm : G.mg c = some (.ref C)) (sr : SR G ρ H S) (r : RpL G ρ H xs vs) (e : g (.loc S.length :: xs) (S ++ [.ins c []]) = some (.non, S'))
    (q : ∀ ρ' v H', Step ρ H ρ' H' → SR G ρ' H' S' → Rp G ρ' H' (.loc S.length) v → Q v H') : ∀ x dx, H x = none → H dx = none → dx ≠ x → spD G g (.ref x :: (vs ++ [])) (upd (upd H dx (.own x)) x (.ins C dx [])) (fun v H2 => v = .non ∧ Q (.ref x) H2) E := by
  intro x dx nx ndx ne
  rw [List.append_nil]
  have nx2 : upd H dx (.own x) x = none := by rw [upd_ne (Ne.symm ne)]; exact nx
  have st1 : Step ρ H ρ (upd H dx (.own x)) := Step.untracked ndx
  have sr1 : SR G ρ (upd H dx (.own x)) S := sr.untracked ndx
  have st2 : Step ρ (upd H dx (.own x)) (ρ ++ [(x, true)]) (upd (upd H dx (.own x)) x (.ins C dx [])) := Step.newloc nx2
  have sr2 : SR G (ρ ++ [(x, true)]) (upd (upd H dx (.own x)) x (.ins C dx [])) (S ++ [.ins c []]) := sr1.new nx2 rfl ⟨C, dx, [], hm, upd_same, by simp only [RpF]⟩
  have st := st1.trans st2
  refine ⟨_, _, _, _, _, sr2, RpL.cons (rp_loc sr1) (r.step st), e, fun ρ' v H' st' sr' rr => ⟨rp_non rr, ?_⟩⟩
  exact q ρ' _ H' (st.trans st') sr' ((rp_loc sr1).step st')
theorem me_make0 (F : HasMk X.prog X.w X.K X.mg X.base c k g) (hr : Room k' X.A) (hk : k + 1 ≤ k' := by decide) (hg : Gl X c := by rfl)
    (hdb : (c == ("__debug__" : Str)) = false := by decide) : ME X (.Call (.Name c p) [] [] pos) (eMake c g aNil) := by
  obtain ⟨C, f, fd, ps, h1, h2, h3, h4⟩ := F.ex
  refine ⟨PE.weak (pe_make0 h2 h4 (hr.mono hk) hg h1 h3 .nil pass0 hdb) fun σ H Q h => ?_⟩
  obtain ⟨ρ, env, S, d, S', he, hs, hf, q⟩ := h
  obtain ⟨xs, S1, e1, e2⟩ := bind2 hf
  obtain ⟨y, S2, e3, e4⟩ := bind2 e2
  cases e1
  cases y with
  | non =>
    cases e4
    exact make_run (vs := []) h1 hs RpL.nil e3 q
  | _ => cases e4
end
end ML

namespace ML
open PySem PySem.Spec PyProof.Rows L2
section
variable {X : Cx} {a : Expr} {fa : Den} {pos p2 : Pos}
/-! ### a slice of a text -/
def eSlS (f : Den) (l h : ODen) : Den := fun env S => (f env S).bind fun p => (l env p.2).bind fun q => (h env q.2).bind fun r => match p.1 with
  | .str z => if z.length ≤ sizeLine then some (.str (cutS z q.1 r.1), r.2) else none
  | _ => none
theorem me_slS {lo hi : Option Expr} {fl fh : ODen} (ha : ME X a fa) (hl : MO X lo fl) (hh : MO X hi fh) : ME X (.Subscript a (.Slice lo hi none p2) pos) (eSlS fa fl fh) := by
  refine ⟨PE.weak (pe_slice sl_str ha.pe hl.po hh.po) fun σ H Q h => ?_⟩
  obtain ⟨ρ, env, S, d, S', he, hs, hf, q⟩ := h
  obtain ⟨x, S1, h1, hf⟩ := bind2 hf
  obtain ⟨y, S2, h2, hf⟩ := bind2 hf
  obtain ⟨z, S3, h3, hf⟩ := bind2 hf
  refine tE.bind he hs h1 fun ρ1 v1 H1 st1 he1 sr1 r1 => tO.bind he1 sr1 h2 fun ρ2 H2 st2 he2 sr2 => tO.bind he2 sr2 h3 fun ρ3 H3 st3 he3 sr3 => ?_
  have r3 := (r1.step st2).step st3
  have st := (st1.trans st2).trans st3
  cases x with
  | str w =>
    by_cases hw : w.length ≤ sizeLine
    · have hf : (if w.length ≤ sizeLine then some (D.str (cutS w y z), S3) else none) = some (d, S') := hf
      rw [if_pos hw] at hf
      cases hf
      exact ⟨w, rp_str r3, hw, q ρ3 _ H3 st sr3 (rp_of_str _)⟩
    · have hf : (if w.length ≤ sizeLine then some (D.str (cutS w y z), S3) else none) = some (d, S') := hf
      rw [if_neg hw] at hf
      cases hf
  | _ => cases hf
end
end ML

namespace ML
open PySem PySem.Spec PyProof.Rows L2
/-! ### data of any depth in a new list -/
theorem units65 {k : Nat} {A : Around} (r : Room k A) : A.units + 65 < cLine := by have := r.un; omega
def eInDU (f : Den) (g : ADen) : Den := fun env S => (f env S).bind fun p => (g env p.2).bind fun q => (toPS q.2 p.1).bind fun x => (toPL q.1).bind fun y =>
  if SeqAt.shaped x && SeqAt.shaped (.list y) then some (.bl (y.any fun z => PyData.eqv z x), q.2) else none
section
variable {X : Cx} {a b : Expr} {fb : ADen} {fd : Den} {pos : Pos}
theorem inDU_imp {G : Gx} {σ : L2.St} {H : Hp} {Q : VK} (h : tE G (eInDU fd fb) σ H Q) : tOp (rInD G.K) (tE G fd) (tU G fb) σ H Q := by
  obtain ⟨ρ, env, S, d, S', he, hs, hf, q⟩ := h
  obtain ⟨x, S1, h1, hf⟩ := bind2 hf
  obtain ⟨y, S2, h2, hf⟩ := bind2 hf
  obtain ⟨px, h3, hf⟩ := Option.bind_eq_some_iff.mp hf
  obtain ⟨py, h4, hf⟩ := Option.bind_eq_some_iff.mp hf
  split at hf
  · rename_i hz
    rw [Bool.and_eq_true] at hz
    cases hf
    refine tE.bind he hs h1 fun ρ1 v1 H1 st1 he1 sr1 r1 => tU.bind he1 sr1 h2 fun ρ2 p2 vs2 H2 st2 he2 sr2 r2 e2 f2 n2 => ?_
    exact ⟨px, py, toPS_ok sr2 h3 (r1.step st2), .lst (.inl (.inl e2)) (toPL_ok h4 r2), hz.1, hz.2, q ρ2 (.bl _) H2 (st1.trans st2) sr2 (rp_of_bl _)⟩
  · cases hf
theorem mt_inDU (hu : X.A.units + 65 < cLine) (ha : ME X a fd) (hb : MU X b fb) (hm : behindInMarks .In b = false := by rfl) : MT X (.Compare a [.In] [b] pos) (asB (eInDU fd fb)) :=
  ⟨PT.weak (pt_cmpR (op_inD hu) ha.pe hb.pu hm) fun _ _ _ h => tst_of (fun _ => inDU_imp) h⟩
end
end ML

/-! texts: methods, signs, order, rows of signs; dicts by texts and numbers -/
namespace ML
open PySem PySem.Spec PyProof.Rows L2
/-! ### a method of a text with one more -/
abbrev Tm := Str → D → Sto → Option (D × Sto)
def eTm (g : Tm) (fo fe : Den) : Den := fun env S => (fo env S).bind fun p => match p.1 with
  | .str a => (fe env p.2).bind fun q => g a q.1 q.2
  | _ => none
def rTm (G : Gx) (g : Tm) : V → List V → Hp → VK → Prop := fun x xs H Q => ∃ ρ S a d d' S' v, x = .str a ∧ xs = [v] ∧ SR G ρ H S ∧ Rp G ρ H d v ∧ g a d S = some (d', S') ∧ ∀ ρ' v' H', Step ρ H ρ' H' → SR G ρ' H' S' → Rp G ρ' H' d' v' → Q v' H'
def tmSplit : Tm
  | a, .str b, S => if b.length ≠ 0 ∧ a.length + 2 ≤ sizeLine then some (.loc S.length, S ++ [.lst ((Txt.split a b).map D.str)]) else none
  | _, _, _ => none
def tmPart : Tm
  | a, .str b, S => if b.length ≠ 0 ∧ a.length ≤ sizeLine then some (.tup [.str (Txt.partition a b).1, .str (Txt.partition a b).2.1, .str (Txt.partition a b).2.2], S) else none
  | _, _, _ => none
def tmStarts : Tm
  | a, .str b, S => some (.bl (Txt.startswith a b), S)
  | _, _, _ => none
def strs? : List D → Option (List Str)
  | [] => some []
  | .str x :: r => (strs? r).map fun t => x :: t
  | _ :: _ => none
def joinOf (a : Str) (ds : List D) (S : Sto) : Option (D × Sto) := (strs? ds).bind fun ys => if (ys.map (·.length)).sum + ys.length * a.length ≤ 16777216 then some (.str (Txt.join a ys), S) else none
def tmJoin : Tm
  | a, .loc l, S => (lsAt S l).bind fun ds => joinOf a ds S
  | a, .tup ds, S => joinOf a ds S
  | _, _, _ => none
section
variable {G : Gx} {ρ : List Lo} {H : Hp}
theorem rpL_strs : ∀ (ys : List Str), RpL G ρ H (ys.map D.str) (ys.map V.str)
  | [] => RpL.nil
  | y :: ys => RpL.cons (rp_of_str y) (rpL_strs ys)
theorem strs_ok : ∀ {ds : List D} {ys : List Str} {vs : List V}, strs? ds = some ys → RpL G ρ H ds vs → vs = ys.map V.str
  | [], _, _, e, r => by
    cases e
    simp only [RpL] at r
    rw [r] <;> rfl
  | .str x :: ds, ys, vs, e, r => by
    obtain ⟨t, h1, h2⟩ := Option.map_eq_some_iff.mp e
    subst h2
    simp only [RpL] at r
    obtain ⟨v, u, rfl, rv, r⟩ := r
    rw [strs_ok h1 r, rp_str rv]
    rfl
  | .non :: _, _, _, e, _ => by cases e
  | .bl _ :: _, _, _, e, _ => by cases e
  | .int _ :: _, _, _, e, _ => by cases e
  | .tup _ :: _, _, _, e, _ => by cases e
  | .loc _ :: _, _, _, e, _ => by cases e
  | .ty _ :: _, _, _, e, _ => by cases e
  | .fn _ :: _, _, _, e, _ => by cases e
theorem imp_split (x : V) (xs : List V) (H : Hp) (Q : VK) : rTm G tmSplit x xs H Q → ∃ a b, x = .str a ∧ xs = [.str b] ∧ (b.length == 0) = false ∧ a.length + 2 ≤ sizeLine ∧ rNewStrs (Txt.split a b) H Q := by
  rintro ⟨ρ, S, a, d, d', S', v, rfl, rfl, sr, r, h, q⟩
  unfold tmSplit at h
  split at h
  · split at h
    · rename_i hz
      cases h
      rw [rp_str r]
      refine ⟨_, _, rfl, rfl, by simpa using hz.1, hz.2, fun p hp => ?_⟩
      exact q _ _ _ ((Step.untracked hp).take hp) ((sr.untracked hp).ownL (sr.fresh hp) upd_same (rpL_strs _)) (rp_loc sr)
    · cases h
  · cases h
theorem imp_part (x : V) (xs : List V) (H : Hp) (Q : VK) : rTm G tmPart x xs H Q → ∃ a b, x = .str a ∧ xs = [.str b] ∧ (b.length == 0) = false ∧ a.length ≤ sizeLine ∧
    ∀ p, H p = none → Q (.ref p) (upd H p (.tup [.str (Txt.partition a b).1, .str (Txt.partition a b).2.1, .str (Txt.partition a b).2.2])) := by
  rintro ⟨ρ, S, a, d, d', S', v, rfl, rfl, sr, r, h, q⟩
  unfold tmPart at h
  split at h
  · split at h
    · rename_i hz
      cases h
      rw [rp_str r]
      refine ⟨_, _, rfl, rfl, by simpa using hz.1, hz.2, fun p hp => ?_⟩
      refine q ρ _ _ (Step.untracked hp) (sr.untracked hp) ?_
      simp only [Rp]
      exact ⟨p, _, rfl, .inl (.inl upd_same), rpL_strs [_, _, _]⟩
    · cases h
  · cases h
theorem imp_starts (x : V) (xs : List V) (H : Hp) (Q : VK) : rTm G tmStarts x xs H Q → ∃ a b, x = .str a ∧ xs = [.str b] ∧ Q (.bl (Txt.startswith a b)) H := by
  rintro ⟨ρ, S, a, d, d', S', v, rfl, rfl, sr, r, h, q⟩
  unfold tmStarts at h
  split at h
  · cases h
    rw [rp_str r]
    exact ⟨_, _, rfl, rfl, q ρ _ H (Step.refl _ _) sr (rp_of_bl _)⟩
  · cases h
theorem imp_join (x : V) (xs : List V) (H : Hp) (Q : VK) : rTm G tmJoin x xs H Q → ∃ a p, ∃ ys : List Str, x = .str a ∧ xs = [.ref p] ∧ (SqL G.K H p (ys.map V.str) ∨ SqT G.K H p (ys.map V.str)) ∧
    (ys.map (·.length)).sum + ys.length * a.length ≤ 16777216 ∧ Q (.str (Txt.join a ys)) H := by
  rintro ⟨ρ, S, a, d, d', S', v, rfl, rfl, sr, r, h, q⟩
  have key : ∀ {ds : List D} {vs : List V}, joinOf a ds S = some (d', S') → RpL G ρ H ds vs → ∃ ys : List Str, vs = ys.map V.str ∧ (ys.map (·.length)).sum + ys.length * a.length ≤ 16777216 ∧ Q (.str (Txt.join a ys)) H := by
    intro ds vs e l
    obtain ⟨ys, h1, h2⟩ := Option.bind_eq_some_iff.mp e
    split at h2
    · rename_i hz
      cases h2
      exact ⟨ys, strs_ok h1 l, hz, q ρ _ H (Step.refl _ _) sr (rp_of_str _)⟩
    · cases h2
  unfold tmJoin at h
  split at h
  · obtain ⟨ds, h1, h⟩ := Option.bind_eq_some_iff.mp h
    obtain ⟨b, hr, rfl⟩ := rp_lc r
    obtain ⟨b', vs, hr', q1, l1⟩ := lsAt_of sr h1
    rw [hr] at hr'; cases hr'
    obtain ⟨ys, e, hz, qq⟩ := key h l1
    subst e
    exact ⟨a, b.1, ys, rfl, rfl, .inl q1, hz, qq⟩
  · obtain ⟨b, vs, rfl, q1, l1⟩ := rp_vs r
    obtain ⟨ys, e, hz, qq⟩ := key h l1
    subst e
    exact ⟨a, b, ys, rfl, rfl, .inr q1, hz, qq⟩
  · cases h
end
section
variable {X : Cx} {o e a b c i v : Expr} {es : List Expr} {fo fe fa fb fc : Den} {fs : ADen} {id : String} {name : Str} {apos pos p : Pos} {g : Tm} {r : V → List V → Hp → VK → Prop}
theorem me_tm (slot : Slot "str" name id) (ty : typeOf (.builtin id) = pure (.type "method_descriptor")) (rule : MtR X id r) (hi : ∀ x xs H Q, rTm (gx X) g x xs H Q → r x xs H Q) (ho : ME X o fo) (he : ME X e fe)
    (hs : starEach [e] X.env = [(false, eval e X.env)] := by rfl) (hbase : attributeBase o name X.env (eval o X.env) = eval o X.env := by rfl) (hline : (apos.endLine == pos.line) = true := by rfl) :
    ME X (.Call (.Attribute o name apos) [e] [] pos) (eTm g fo fe) := by
  refine ⟨PE.weak (pe_m1 slot ty rule ho.pe he.pe hs hbase hline) fun σ H Q h => ?_⟩
  obtain ⟨ρ, env, S, d, S', he, hs, hf, q⟩ := h
  obtain ⟨x, S1, h1, hf⟩ := bind2 hf
  cases x with
  | str a =>
    obtain ⟨y, S2, h2, hf⟩ := bind2 hf
    refine tE.bind he hs h1 fun ρ1 v1 H1 st1 he1 sr1 r1 => ⟨⟨a, rp_str r1⟩, ?_⟩
    refine tE.bind he1 sr1 h2 fun ρ2 v2 H2 st2 he2 sr2 r2 => ?_
    exact hi _ _ _ _ ⟨ρ2, S2, a, y, d, S', v2, rp_str r1, rfl, sr2, r2, hf, fun ρ' v' H' st sr rr => q ρ' v' H' ((st1.trans st2).trans st) sr rr⟩
  | _ => cases hf
theorem mm_split (ho : ME X o fo) (he : ME X e fe) (hs : starEach [e] X.env = [(false, eval e X.env)] := by rfl) (hbase : attributeBase o "split" X.env (eval o X.env) = eval o X.env := by rfl) (hline : (apos.endLine == pos.line) = true := by rfl) :
    ME X (.Call (.Attribute o "split" apos) [e] [] pos) (eTm tmSplit fo fe) := me_tm PySem.F.slot_str_split PySem.F.type_str_split mt_split imp_split ho he hs hbase hline
theorem mm_part (ho : ME X o fo) (he : ME X e fe) (hs : starEach [e] X.env = [(false, eval e X.env)] := by rfl) (hbase : attributeBase o "partition" X.env (eval o X.env) = eval o X.env := by rfl) (hline : (apos.endLine == pos.line) = true := by rfl) :
    ME X (.Call (.Attribute o "partition" apos) [e] [] pos) (eTm tmPart fo fe) := me_tm PySem.F.slot_str_partition PySem.F.type_str_partition mt_partition imp_part ho he hs hbase hline
theorem mm_starts (ho : ME X o fo) (he : ME X e fe) (hs : starEach [e] X.env = [(false, eval e X.env)] := by rfl) (hbase : attributeBase o "startswith" X.env (eval o X.env) = eval o X.env := by rfl) (hline : (apos.endLine == pos.line) = true := by rfl) :
    ME X (.Call (.Attribute o "startswith" apos) [e] [] pos) (eTm tmStarts fo fe) := me_tm PySem.F.slot_str_startswith PySem.F.type_str_startswith mt_startswith imp_starts ho he hs hbase hline
theorem mm_join (ho : ME X o fo) (he : ME X e fe) (hs : starEach [e] X.env = [(false, eval e X.env)] := by rfl) (hbase : attributeBase o "join" X.env (eval o X.env) = eval o X.env := by rfl) (hline : (apos.endLine == pos.line) = true := by rfl) :
    ME X (.Call (.Attribute o "join" apos) [e] [] pos) (eTm tmJoin fo fe) := me_tm PySem.F.slot_str_join PySem.F.type_str_join mt_join imp_join ho he hs hbase hline
/-! ### int of a text too -/
def bIntT : Fn
  | [.int i], S => some (.int i, S)
  | [.bl k], S => some (.int (if k then 1 else 0), S)
  | [.str a], S => if a.length ≤ 640 then (PySem.intText? a).map fun n => (.int n, S) else none
  | _, _ => none
theorem imp_intT {G : Gx} : ImpC G bIntT (fun xs H Q => ((∃ i, xs = [.int i] ∧ Q (.int i) H) ∨ ∃ k, xs = [.bl k] ∧ Q (.int (if k then 1 else 0)) H) ∨ ∃ a n, xs = [.str a] ∧ PySem.intText? a = some n ∧ a.length ≤ 640 ∧ Q (.int n) H) := by
  rintro xs H Q ⟨ρ, S, ds, d, S', hs, r, h, q⟩
  unfold bIntT at h
  split at h
  · cases h
    obtain ⟨v, rfl, rv⟩ := one_of r
    exact .inl (.inl ⟨_, by rw [rp_int rv], q ρ _ H (Step.refl _ _) hs (rp_of_int _)⟩)
  · cases h
    obtain ⟨v, rfl, rv⟩ := one_of r
    exact .inl (.inr ⟨_, by rw [rp_bl rv], q ρ _ H (Step.refl _ _) hs (rp_of_int _)⟩)
  · split at h
    · rename_i hz
      obtain ⟨n, h1, h2⟩ := Option.map_eq_some_iff.mp h
      cases h2
      obtain ⟨v, rfl, rv⟩ := one_of r
      exact .inr ⟨_, n, by rw [rp_str rv], h1, hz, q ρ _ H (Step.refl _ _) hs (rp_of_int _)⟩
    · cases h
  · cases h
theorem mb_intT (hm : X.mg "int" = none) (ha : MA X (e :: es) fs) (hg : Gl X "int" := by rfl) (he : starEach (e :: es) X.env = (false, eval e X.env) :: starEach es X.env := by rfl) (hpl : (backTo pos (starEach es X.env)).any (·.1) = false := by rfl) : ME X (.Call (.Name "int" p) (e :: es) [] pos) (eCall bIntT fs) :=
  me_callTy (CallR.or call_int1 call_int_str) imp_intT hg hm (by decide +kernel) ha (by decide) (by decide) he hpl
/-! ### a sign in a text, or a thing in a row -/
def gInT (neg : Bool) : Op2
  | .str x, .str z, S => match x.cps.toList with
    | [c] => some (.bl (if neg = true then !decide (c ∈ z.cps.toList) else decide (c ∈ z.cps.toList)), S)
    | _ => none
  | x, y, S => gIn neg x y S
theorem sign_of {x : Str} {c : Nat} (h : x.cps.toList = [c]) : x = ⟨#[c]⟩ := Str.ext' (Array.toList_inj.mp h)
theorem imp_inT {G : Gx} : Imp2 G (gInT false) (fun x y H Q => (∃ (c : Nat) (z : Str), x = .str ⟨#[c]⟩ ∧ y = .str z ∧ Q (.bl (decide (c ∈ z.cps.toList))) H) ∨ rIn G.K false x y H Q) := by
  rintro x y H Q ⟨ρ, S, d1, d2, d, S', hs, r1, r2, h, q⟩
  unfold gInT at h
  split at h
  · split at h
    · rename_i c hc
      cases h
      refine .inl ⟨c, _, by rw [rp_str r1, sign_of hc], rp_str r2, q ρ _ H (Step.refl _ _) hs (rp_of_bl _)⟩
    · cases h
  · exact .inr (imp_in x y H Q ⟨ρ, S, d1, d2, d, S', hs, r1, r2, h, q⟩)
theorem me_inT (ha : ME X a fa) (hb : ME X b fb) (hm : behindInMarks .In b = false := by rfl) : ME X (.Compare a [.In] [b] pos) (eOp (gInT false) fa fb) := me_cmp (op_in_sign.or op_in_seq) imp_inT ha hb hm
/-! ### the order of texts -/
def cLeT : Op2
  | .str x, .str y, S => some (.bl (!decide (y.cps.toList < x.cps.toList)), S)
  | _, _, _ => none
theorem imp_leT {G : Gx} : Imp2 G cLeT (fun x y H Q => ∃ i j, x = .str i ∧ y = .str j ∧ Q (.bl (!decide (j.cps.toList < i.cps.toList))) H) := by
  rintro x y H Q ⟨ρ, S, d1, d2, d, S', hs, r1, r2, h, q⟩
  unfold cLeT at h
  split at h
  · cases h
    exact ⟨_, _, rp_str r1, rp_str r2, q ρ _ H (Step.refl _ _) hs (rp_of_bl _)⟩
  · cases h
/-! ### the signs of a text, one by one; or a row -/
def sgD (x : Str) : List D := x.cps.toList.map fun c => D.str ⟨#[c]⟩
def iSeqT (f : Den) : IDen := fun env S => (f env S).bind fun p => match p.1 with
  | .str x => some (⟨sgD x, []⟩, p.2)
  | _ => none
theorem itR_str {G : Gx} {ρ : List Lo} {H : Hp} {x : Str} : ItR G ρ H ⟨sgD x, []⟩ (Its x) := by
  have hl : (sgD x).length = x.cps.size := by simp [sgD]
  refine ⟨fun i _ _ _ hi _ _ _ => ?_, fun _ _ _ _ _ _ => ?_, fun i ρ2 H2 S2 y H3 hi st sr _ hy => ?_⟩
  · show i < x.cps.size
    rw [← hl]; exact hi
  · show x.cps.size ≤ (sgD x).length
    rw [hl] <;> exact Nat.le_refl _
  · obtain ⟨rfl, c, hc, rfl⟩ := hy
    refine ⟨Step.refl _ _, sr, _, ?_, rp_of_str _⟩
    simp [sgD, hc]
theorem mi_seqT {tg : Expr} (h : ME X e fe) : MI X tg e (iSeqT fe) := by
  refine ⟨PI.weak (pi_str h.pe) fun σ H R h => ?_⟩
  obtain ⟨ρ, env, S, it, S', he, hs, hf, q⟩ := h
  obtain ⟨x, S1, h1, hf⟩ := bind2 hf
  cases x with
  | str z =>
    cases hf
    exact tE.bind he hs h1 fun ρ1 v1 H1 st1 he1 sr1 r1 => ⟨z, rp_str r1, q ρ1 H1 _ st1 sr1 itR_str⟩
  | _ => cases hf
/-! ### {} -/
def eDk0 : Den := fun _ S => some (.loc S.length, S ++ [.dk []])
theorem me_dk0 : ME X (.Dict [] [] pos) eDk0 := by
  refine ⟨PE.weak pe_dnewK fun σ H Q h => ?_⟩
  obtain ⟨ρ, env, S, d, S', he, hs, hf, q⟩ := h
  cases hf
  intro p hp
  have st : Step ρ H ρ (upd H p (.dK [])) := Step.untracked hp
  exact q _ _ _ (st.take hp) ((hs.untracked hp).own (hs.fresh hp) rfl ⟨[], upd_same, by simp only [RpK]⟩) (rp_loc hs)
end
end ML

/-! tables of the module, of any data and of defs, read by get; dicts of the store read, asked and written -/
namespace ML
open PySem PySem.Spec PyProof.Rows L2
/-! ### what is told of tables -/
def ckE (K : PySem.W.Frag) : D → Value → Bool
  | .fn f, u => (match u with
    | .ref _ => He.eqO (PySem.W.nsIn K mainGlobals f) (some (some u))
    | _ => false)
  | d, u => ckV K d u
theorem ckE_ok {K : PySem.W.Frag} {h : Heap} {mg : Str → Option Value} (X : K.In h) (G : h.Ns mainGlobals mg) {d : D} {u : Value} (e : ckE K d u = true) : ∃ v, RelV v u ∧ ∀ ρ H, Rp ⟨K, mg⟩ ρ H d v := by
  cases d with
  | fn f =>
    unfold ckE at e
    cases u with
    | ref a => exact ⟨.ref a, rfl, fun _ _ => by simp only [Rp]; exact ⟨.ref a, PySem.W.mg_of X G (He.eqO_ok e), rfl⟩⟩
    | _ => cases e
  | _ => exact let ⟨v, r, z⟩ := ckV_ok _ u e; ⟨v, r, z mg⟩
structure HasQ (K : PySem.W.Frag) (w : World) (mg : Str → Option Value) (x : Str) (kvs : List (Str × D)) : Prop where
  ex : ∃ p es n, mg x = some (.ref p) ∧ KDict K w p es n ∧ (∀ z d, kvs.lookup z = some d → ∃ u v, PySem.W.nsIn K p z = some (some u) ∧ RelV v u ∧ ∀ ρ H, Rp ⟨K, mg⟩ ρ H d v) ∧ ∀ z, kvs.lookup z = none → PySem.W.nsIn K p z = some none
abbrev TabQ : Type := Str × List (Str × D)
def ckQ (K : PySem.W.Frag) (t : TabQ) : Bool := He.eqO (PySem.W.nsIn K mainGlobals t.1) (some (some (.ref (He.ga K t.1)))) &&
  t.2.all fun q => match PySem.W.nsIn K (He.ga K t.1) q.1 with
    | some (some u) => ckE K q.2 u
    | _ => false
abbrev AlQ : Type := AlY × Bool × List (Option (List (Option (Str × Int))))
def obsQ (fa : List He.Fa) (fn : List He.DefD) (cs : List (Str × D)) (ts : List TabD) (tq : List TabQ) (K : PySem.W.Frag) : AlQ :=
  (obsY fa fn cs ts K, tq.all (ckQ K), tq.map fun t => He.dicW K (He.ga K t.1))
def valQ (fn : List He.DefD) (ts : List TabD) (tq : List TabQ) (w : World) : AlQ := (valY fn ts w, true, tq.map fun t => some (He.keysIn w.params (t.2.map (·.1))))
def SaysQ (fa : List He.Fa) (fn : List He.DefD) (cs : List (Str × D)) (ts : List TabD) (tq : List TabQ) (w : World) (K : PySem.W.Frag) : Prop := obsQ fa fn cs ts tq K = valQ fn ts tq w
theorem lookup_no {α : Type} {z : Str} : ∀ {l : List (Str × α)}, l.lookup z = none → z ∉ l.map (·.1)
  | [], _ => by simp
  | (k, v) :: r, e => by
    rw [List.lookup_cons] at e
    split at e
    · cases e
    · rename_i hb
      rw [List.map_cons, List.mem_cons]
      rintro (q | q)
      · subst q
        simp at hb
      · exact lookup_no e q
theorem keys_none {P : Params} {z : Str} : ∀ {l : List DictEntry} {ks : List Str}, l.map He.keyOf = He.keysIn P ks → z ∉ ks → l.find? (·.key.isStr z) = none ∧ l.any (·.refKey) = false
  | [], _, _, _ => ⟨rfl, rfl⟩
  | e :: r, [], h, _ => by cases h
  | e :: r, k :: ks, h, hz => by
    have h1 : He.keyOf e :: r.map He.keyOf = some (k, PyData.keyHash P k) :: He.keysIn P ks := h
    injection h1 with h2 h3
    rw [List.mem_cons, not_or] at hz
    obtain ⟨i1, i2⟩ := keys_none h3 hz.2
    unfold He.keyOf at h2
    split at h2
    · rename_i x t q
      have h4 := Option.some.inj h2
      obtain ⟨h5, h6⟩ := Prod.mk.inj h4
      have hk : e.key.isStr z = false := by
        rw [q, h5]
        show (k == z) = false
        exact beq_eq_false_iff_ne.mpr fun a => hz.1 a.symm
      refine ⟨by rw [List.find?_cons, hk]; exact i1, ?_⟩
      rw [List.any_cons, i2, Bool.or_false]
      unfold DictEntry.refKey
      rw [q]
    · cases h2
section
variable {fa : List He.Fa} {fn : List He.DefD} {cs : List (Str × D)} {ts : List TabD} {tq : List TabQ} {K : PySem.W.Frag} {h : Heap} {mg : Str → Option Value} {w : World}
theorem SaysQ.y (c : SaysQ fa fn cs ts tq w K) : SaysY fa fn cs ts w K := congrArg (fun z : AlQ => z.1) c
theorem SaysQ.d (c : SaysQ fa fn cs ts tq w K) : He.SaysD fa fn K := c.y.d
theorem SaysQ.cst (X : K.In h) (G : h.Ns mainGlobals mg) (c : SaysQ fa fn cs ts tq w K) (i : Nat) {x : Str} {d : D} (e : cs[i]? = some (x, d) := by rfl) : HasC K mg x d := c.y.cst X G i e
theorem SaysQ.tabQ (X : K.In h) (G : h.Ns mainGlobals mg) (c : SaysQ fa fn cs ts tq w K) (i : Nat) {x : Str} {kvs : List (Str × D)} (e : tq[i]? = some (x, kvs) := by rfl) : HasQ K w mg x kvs := by
  have c1 : tq.all (ckQ K) = true := congrArg (fun z : AlQ => z.2.1) c
  have c3 : tq.map (fun t => He.dicW K (He.ga K t.1)) = tq.map fun t => some (He.keysIn w.params (t.2.map (·.1))) := congrArg (fun z : AlQ => z.2.2) c
  have c2 := List.all_eq_true.mp c1 _ (List.mem_of_getElem? e)
  have c4 : (tq.map fun t => He.dicW K (He.ga K t.1))[i]? = (tq.map fun t => some (He.keysIn w.params (t.2.map (·.1))))[i]? := by rw [c3]
  rw [List.getElem?_map, List.getElem?_map, e] at c4
  have c5 : He.dicW K (He.ga K x) = some (He.keysIn w.params (kvs.map (·.1))) := Option.some.inj c4
  obtain ⟨es, n, kd⟩ := He.dicW_ok (w := w) c5
  obtain ⟨d1, d2⟩ := He.ba c2
  refine ⟨He.ga K x, es, n, PySem.W.mg_of X G (He.eqO_ok d1), kd, fun z f hz => ?_, fun z hz => ?_⟩
  · have d3 := List.all_eq_true.mp d2 _ (lookup_in hz)
    dsimp only at d3
    split at d3
    · rename_i u hu
      obtain ⟨v, r, a⟩ := ckE_ok X G d3
      exact ⟨u, v, hu, r, a⟩
    · cases d3
  · unfold He.dicW at c5
    have hl := kd.at_
    rw [hl] at c5
    have hk : es.toList.map He.keyOf = He.keysIn w.params (kvs.map (·.1)) := by
      have : (match decide (("dict" : String) = "dict") && ((#[] : Array (Option Value)).isEmpty && !(He.ga K x == sysModules)) with
        | true => some (es.toList.map He.keyOf)
        | false => none) = some (He.keysIn w.params (kvs.map (·.1))) := c5
      rw [kd.low] at this
      exact Option.some.inj this
    obtain ⟨g1, g2⟩ := keys_none hk (lookup_no hz)
    unfold PySem.W.nsIn
    rw [hl]
    dsimp only
    rw [g1]
    dsimp only
    rw [g2]
    rfl
end
/-! ### T.get(e, f) -/
def eTabG (kvs : List (Str × D)) (fe ff : Den) : Den := fun env S => (fe env S).bind fun p => (ff env p.2).bind fun q => match p.1 with
  | .str z => some ((kvs.lookup z).getD q.1, q.2)
  | _ => none
section
variable {X : Cx} {o e f a b i v : Expr} {fo fe ff fa fb fi fv : Den} {apos pos pos' p : Pos} {x : Str} {kvs : List (Str × D)}
theorem me_tabG (T : HasQ X.K X.w X.mg x kvs) (he : ME X e fe) (hf : ME X f ff) (m : M2 X (.Name x p) "get" apos e f pos := by exact ⟨rfl, rfl, rfl, rfl⟩) (hg : Gl X x := by rfl) (hd : (x == ("__debug__" : Str)) = false := by decide) :
    ME X (.Call (.Attribute (.Name x p) "get" apos) [e, f] [] pos) (eTabG kvs fe ff) := by
  obtain ⟨a, es, n, h1, kd, h2, h3⟩ := T.ex
  refine ⟨⟨fun pins s σ H Q I h => ?_⟩⟩
  obtain ⟨ρ, env, S, d, S', he0, hs, hfn, q⟩ := h
  obtain ⟨y, S1, e1, hfn⟩ := bind2 hfn
  obtain ⟨z, S2, e2, hfn⟩ := bind2 hfn
  refine wpAny_Call_method m.base m.few m.line PySem.F.plainAttrs_dict PySem.F.slot_dict_get PySem.F.type_dict_get (thn ((pe_glob hg h1 (v := .ref a) rfl hd).run pins s σ H (fun x1 H1 => x1 = .ref a ∧ H1 = H) I ⟨rfl, rfl⟩) fun u s1 ⟨x1, H1, I1, rx, ex, eh⟩ => ?_)
  subst ex eh
  obtain rfl : u = Value.ref a := rx
  have mo := PySem.W.mapOf_K (prog := X.prog) (w := X.w) I1.kIn kd.at_ kd.lit
  refine ⟨mo.typeIs, fun b hb => ?_, ?_⟩
  · cases hb
    exact ⟨_, I1.kIn _ _ kd.at_, rfl⟩
  rw [m.trees]
  refine Calls.callWith_builtin rfl (Calls.evalArgs_plain (Calls.spliced_cons (thn (he.pe.run pins s1 σ H1 (fun v2 H2 => ∃ ρ2, Step ρ H1 ρ2 H2 ∧ EnR (gx X) ρ2 H2 env σ ∧ SR (gx X) ρ2 H2 S1 ∧ Rp (gx X) ρ2 H2 y v2) I1 ?_) fun iv s2 ⟨v2, H2, I2, ry, ρ2, st2, he2, sr2, r2⟩ =>
    Calls.spliced_cons (thn (hf.pe.run pins s2 σ H2 (fun v3 H3 => ∃ ρ3, Step ρ2 H2 ρ3 H3 ∧ SR (gx X) ρ3 H3 S2 ∧ Rp (gx X) ρ3 H3 z v3) I2 ?_) fun fv s3 ⟨v3, H3, I3, rz, ρ3, st3, sr3, r3⟩ => Calls.spliced_nil ?_))))
  · exact tE.bind he0 hs e1 fun ρ1 v1 H1 st1 he1 sr1 r1 => ⟨ρ1, st1, he1, sr1, r1⟩
  · exact tE.bind he2 sr2 e2 fun ρ1 v1 H1 st1 he1 sr1 r1 => ⟨ρ1, st1, sr1, r1⟩
  cases y with
  | str k =>
    have hfn : some ((kvs.lookup k).getD z, S2) = some (d, S') := hfn
    cases hfn
    have := rp_str r2
    subst this
    obtain ⟨t, rfl⟩ := ry
    have mo3 := PySem.W.mapOf_K (prog := X.prog) (w := X.w) I3.kIn kd.at_ kd.lit
    refine call_meetsIn PySem.F.slot_dict_get mo3.typeIs PySem.F.entry_dict_get (PySem.F.args_dict_get_3 _ _ _) (meets_dict_get_default (PySem.strKind X.prog X.w) a (PySem.strKind_is X.prog X.w k t) kd.low fv) ⟨_, mo3, ?_⟩
    cases hk : kvs.lookup k with
    | none =>
      rw [PySem.W.find_K kd.at_ (h3 k hk)]
      exact ⟨v3, H3, I3.tok _, rz, q ρ3 v3 H3 (st2.trans st3) sr3 (by rw [hk] at *; exact r3)⟩
    | some d0 =>
      obtain ⟨u0, v0, g1, g2, g3⟩ := h2 k d0 hk
      rw [PySem.W.find_K kd.at_ g1]
      exact ⟨v0, H3, I3.tok _, g2, q ρ3 v0 H3 (st2.trans st3) sr3 (by rw [hk] at *; exact g3 _ _)⟩
  | _ => cases hfn
end
end ML

/-! a, b, *rest = xs -/
namespace ML
open PySem PySem.Spec PyProof.Rows L2
theorem Walks.shift {prog : Program} {w : World} {A : Around} {I : Addr} {fp wr : List Addr} {n : Nat} {P : Nat → Value → Prop} {St : Nat → Heap → Prop} (W : Walks prog w A I fp wr n P St) (k : Nat) (hk : k ≤ n) :
    Walks prog w A I fp wr (n - k) (fun i => P (k + i)) (fun i => St (k + i)) where
  sub := W.sub
  frame := fun i h h' st q => W.frame _ h h' st q
  item := fun i s Q E hi st q => W.item (k + i) s Q E (by omega) st q
  done := fun s Q E st q => W.done s Q E (by rw [show n = k + (n - k) by omega]; exact st) q
  self := fun i s Q E st q => W.self _ s Q E st q
theorem items_drop {items acc : Array Value} {k : Nat} (hk : k ≤ items.size) (h : ItemsOf (fun i v => items[k + i]? = some v) acc (items.size - k)) : acc.toList = items.toList.drop k := by
  apply List.ext_getElem?
  intro i
  rw [List.getElem?_drop]
  by_cases hi : i < acc.size
  · have e := h.2 i acc[i] (by simp [hi])
    simp only [Array.getElem?_toList]
    rw [e]
    simp [hi]
  · have h1 := h.1
    rw [List.getElem?_eq_none (by simpa using (by omega : acc.size ≤ i)), List.getElem?_eq_none (by simp; omega)]
section
variable {prog : Program} {w : World} {A : Around} {E : Value → Shared → Prop} {s : Shared}
/-- what is behind the first ones -/
theorem star_coll {I t : Addr} {items : Array Value} {i : Nat} {St : Nat → Heap → Prop} {T : String} {Q : List Value → Shared → Prop} (hT : T = "list_iterator" ∨ T = "tuple_iterator")
    (W : Walks prog w A.in1 I [I, t] [I] items.size (fun i v => items[i]? = some v) St) (ty : ∀ i (s : Shared), St i s.heap → s.TypeIs (.ref I) T) (hi : i ≤ items.size) (st : St i s.heap)
    (hI : I < s.heap.objs.size) (ht : t < s.heap.objs.size) (hz : items.size ≤ sizeLine)
    (h : ∀ s' : Shared, Moved [I] (fun a b => b = a) s s' → Q (items.toList.drop i) s') : wpAny (model prog w) A (collect (.ref I)) Q E s := by
  refine wpAny_collect_iter (by rcases hT with e | e <;> simp [e]) (Walks.shift W i hi).toS (fun j s' st' => ty _ s' st') (by exact st) (fun b hb => ?_) (by simp) (fun s' acc mv ha => ?_) (by omega)
  · rcases List.mem_cons.mp hb with rfl | hb
    · exact hI
    · rw [List.mem_singleton.mp hb] <;> exact ht
  · rw [items_drop hi ha]
    exact h s' mv
theorem items_star_tup {t : Addr} {items : Array Value} {i : Nat} {Q : List Value → Shared → Prop} (hh : A.handled = none) (ht : s.heap.IsTuple t items) (hi : i ≤ items.size) (hz : items.size ≤ sizeLine)
    (h : ∀ s' : Shared, Moved [] (fun a b => b = a) s s' → Q (items.toList.take i ++ [.ref s'.heap.objs.size]) { s' with heap := s'.heap.push { cls := .type "list", data := .seq (items.toList.drop i).toArray } }) :
    wpAny (model prog w) A (unpackItems (.ref t) (i + 1) (some i)) Q E s := by
  have hlt : t ≠ s.heap.objs.size := by obtain ⟨o, ho, _⟩ := ht; exact Nat.ne_of_lt (Heap.lt_size ho)
  have hlt2 : t < s.heap.objs.size := by obtain ⟨o, ho, _⟩ := ht; exact Heap.lt_size ho
  unfold unpackItems
  refine wpAny_bind ?_
  · unfold notIterableAtAll
    refine wpAny_bind (wpAny_specialOf ht.typeIs F.slot_tuple_iter.lookup ?_)
    refine wpAny_pure ?_
    simp only [Bool.false_eq_true, if_false]
    refine wpAny_bind (wpAny_holding (wpAny_pyIter_tuple ht ?_))
    refine wpAny_bind (wpAny_holding (wpAny_draw_tuple hlt i 0 _ _ ⟨_, Heap.get?_push_size _ rfl, rfl, rfl⟩ (ht.push _) (by omega) fun h₁ hit₁ hs₁ => ?_))
    have hall : (List.drop 0 items.toList).take i = items.toList.take i := by rw [List.drop_zero]
    rw [hall]
    have hl : (items.toList.take i).length = i := by rw [List.length_take, Array.length_toList]; omega
    rw [if_neg (by rw [hl]; omega)]
    have ht₁ : h₁.IsTuple t items := (ht.push _).extBut hs₁.extBut hlt
    rw [Nat.zero_add] at hit₁
    have big : s.heap.objs.size < h₁.objs.size := by obtain ⟨o, ho, _⟩ := hit₁; exact Heap.lt_size ho
    refine wpAny_bind (wpAny_holding (star_coll (.inr rfl) (Walks.tuple (A := A.in1) hh s.heap.objs.size t hlt items) (fun j s' st' => st'.1.typeIs) hi ⟨hit₁, ht₁⟩ big (by obtain ⟨o, ho, _⟩ := ht₁; exact Heap.lt_size ho) hz fun s' mv => ?_))
    have hd : (items.toList.drop i).length ≤ sizeLine := by rw [List.length_drop, Array.length_toList]; omega
    rw [if_neg (by omega)]
    have e2 : (items.toList.drop i).length - (i + 1 - 1 - i) = (items.toList.drop i).length := by omega
    rw [e2, List.take_length, List.drop_length]
    refine wpAny_bind (wpAny_newList (hsz := hd) ?_)
    refine wpAny_pure ?_
    rw [List.append_nil]
    refine h s' ⟨fun b o _ e => mv.heap b o (fun hb => ?_) (hs₁.extBut b o (fun hb => ?_) (Heap.get?_push_of_some _ e)), mv.gens, mv.drawn, mv.os, mv.toks⟩
    · rw [List.mem_singleton.mp hb] at e
      exact absurd (Heap.lt_size e) (Nat.lt_irrefl _)
    · rw [hb] at e
      exact absurd (Heap.lt_size e) (Nat.lt_irrefl _)
theorem items_star_lst {t : Addr} {items : Array Value} {i : Nat} {Q : List Value → Shared → Prop} (hh : A.handled = none) (ht : s.heap.IsList t items) (hi : i ≤ items.size) (hz : items.size ≤ sizeLine)
    (h : ∀ s' : Shared, Moved [] (fun a b => b = a) s s' → Q (items.toList.take i ++ [.ref s'.heap.objs.size]) { s' with heap := s'.heap.push { cls := .type "list", data := .seq (items.toList.drop i).toArray } }) :
    wpAny (model prog w) A (unpackItems (.ref t) (i + 1) (some i)) Q E s := by
  have hlt : t ≠ s.heap.objs.size := by obtain ⟨o, ho, _⟩ := ht; exact Nat.ne_of_lt (Heap.lt_size ho)
  have hlt2 : t < s.heap.objs.size := by obtain ⟨o, ho, _⟩ := ht; exact Heap.lt_size ho
  unfold unpackItems
  refine wpAny_bind ?_
  · unfold notIterableAtAll
    refine wpAny_bind (wpAny_specialOf ht.typeIs F.slot_list_iter.lookup ?_)
    refine wpAny_pure ?_
    simp only [Bool.false_eq_true, if_false]
    refine wpAny_bind (wpAny_holding (wpAny_pyIter_list ht ?_))
    refine wpAny_bind (wpAny_holding (PySem.W.kun_draw hlt i 0 _ _ ⟨_, Heap.get?_push_size _ rfl, rfl, rfl⟩ (ht.push _) (by omega) fun h₁ hit₁ hs₁ => ?_))
    have hall : (List.drop 0 items.toList).take i = items.toList.take i := by rw [List.drop_zero]
    rw [hall]
    have hl : (items.toList.take i).length = i := by rw [List.length_take, Array.length_toList]; omega
    rw [if_neg (by rw [hl]; omega)]
    have ht₁ : h₁.IsList t items := (ht.push _).extBut hs₁.extBut hlt
    rw [Nat.zero_add] at hit₁
    have big : s.heap.objs.size < h₁.objs.size := by obtain ⟨o, ho, _⟩ := hit₁; exact Heap.lt_size ho
    refine wpAny_bind (wpAny_holding (star_coll (.inl rfl) (Walks.list (A := A.in1) hh s.heap.objs.size t hlt items) (fun j s' st' => st'.1.typeIs) hi ⟨hit₁, ht₁⟩ big (by obtain ⟨o, ho, _⟩ := ht₁; exact Heap.lt_size ho) hz fun s' mv => ?_))
    have hd : (items.toList.drop i).length ≤ sizeLine := by rw [List.length_drop, Array.length_toList]; omega
    rw [if_neg (by omega)]
    have e2 : (items.toList.drop i).length - (i + 1 - 1 - i) = (items.toList.drop i).length := by omega
    rw [e2, List.take_length, List.drop_length]
    refine wpAny_bind (wpAny_newList (hsz := hd) ?_)
    refine wpAny_pure ?_
    rw [List.append_nil]
    refine h s' ⟨fun b o _ e => mv.heap b o (fun hb => ?_) (hs₁.extBut b o (fun hb => ?_) (Heap.get?_push_of_some _ e)), mv.gens, mv.drawn, mv.os, mv.toks⟩
    · rw [List.mem_singleton.mp hb] at e
      exact absurd (Heap.lt_size e) (Nat.lt_irrefl _)
    · rw [hb] at e
      exact absurd (Heap.lt_size e) (Nat.lt_irrefl _)
end
/-- a, b, *c = xs -/
def gStar (K : PySem.W.Frag) (i : Nat) (t : TGs) : TG := fun v σ H Q => ∃ a xs, v = V.ref a ∧ (SqT K H a xs ∨ SqL K H a xs) ∧ i ≤ xs.length ∧ ∀ p, H p = none → t (xs.take i ++ [.ref p]) σ (upd H p (.lst (xs.drop i))) Q
theorem Vals.takeN {vs : List V} {us : List Value} (r : Vals vs us) (i : Nat) : Vals (vs.take i) (us.take i) := by
  induction r generalizing i with
  | nil => simp only [List.take_nil]; exact .nil
  | cons h _ ih =>
    cases i with
    | zero => exact .nil
    | succ i => exact .cons h (ih i)
theorem Vals.dropN {vs : List V} {us : List Value} (r : Vals vs us) (i : Nat) : Vals (vs.drop i) (us.drop i) := by
  induction r generalizing i with
  | nil => simp only [List.drop_nil]; exact .nil
  | cons h t ih =>
    cases i with
    | zero => exact .cons h t
    | succ i => exact ih i
theorem Vals.snoc {vs : List V} {us : List Value} {v : V} {u : Value} (r : Vals vs us) (h : RelV v u) : Vals (vs ++ [v]) (us ++ [u]) := by
  induction r with
  | nil => exact .cons h .nil
  | cons h' _ ih => exact .cons h' ih
section
variable {X : Cx} {pos : Pos}
theorem pg_star {es : List Expr} {k : Nat} {t : TGs} {i : Nat} (hc : X.calm = true) (h : PGs X es t)
    (hn : (assignEach es X.env).length = i + 1 := by rfl) (hst : (assignEach es X.env).findIdx? (·.1) = some i := by rfl) : PG X (.Tuple es k pos) (gStar X.K i t) := by
  refine ⟨fun pins s σ H v u Q I r hw => ?_⟩
  obtain ⟨a, xs, e1, hq, hl, hw⟩ := hw
  subst e1
  cases r
  rw [PyProof.Rows.assign_Tuple]
  refine wpAny_bind (wpAny_standAt ?_)
  unfold unpack
  rw [hn, hst]
  have fin : ∀ {its : List Value}, Vals xs its → its.toArray.size ≤ sizeLine → ∀ s' : Shared, Moved [] (fun a b => b = a) s s' →
      wpAny (model X.prog X.w) X.A (assignInOrder ((assignEach es X.env).map (·.2)) (its.toArray.toList.take i ++ [.ref s'.heap.objs.size])) (fun _ s' => ∃ σ' H', Inv X pins σ' H' s' ∧ Q σ' H') X.xe
        { s' with heap := s'.heap.push { cls := .type "list", data := .seq (its.toArray.toList.drop i).toArray } } := by
    intro its rv hz s' mv
    have I1 : Inv X pins σ H s' := by
      have := I.kept (t' := s'.toks) (h' := s'.heap) fun b o e => mv.heap b o (by simp) e
      obtain ⟨hp, g, d, tk, os⟩ := s'
      have e1 := mv.gens
      have e2 := mv.drawn
      have e3 := mv.os
      dsimp only at e1 e2 e3
      subst e1 e2 e3
      exact this
    have hp : H s'.heap.objs.size = none := I1.hok.fresh (Nat.le_refl _)
    have I2 : Inv X pins σ (upd H s'.heap.objs.size (.lst (xs.drop i))) { s' with heap := s'.heap.push { cls := .type "list", data := .seq (its.toArray.toList.drop i).toArray } } := by
      refine I1.laid (t' := s'.toks) (fun b u e => Heap.get?_push_of_some _ e) (Nat.le_refl _) ?_
      refine ⟨?_, its.drop i, 0, Vals.dropN rv i, ?_⟩
      · rw [List.length_drop, rv.length]
        rw [List.size_toArray] at hz
        omega
      · simp only [List.toList_toArray]
        exact Heap.get?_push_size _ rfl
    refine h.run pins _ σ _ (xs.take i ++ [.ref s'.heap.objs.size]) _ Q I2 ?_ (hw _ hp)
    rw [List.toList_toArray]
    exact Vals.snoc (Vals.takeN rv i) rfl
  rcases hq with hq | hq
  · obtain ⟨its, rv, ht, hz⟩ := I.tuple hq
    refine wpAny_bind (wpAny_holding (items_star_tup (I.ok.hd hc) ht (by rw [List.size_toArray, ← rv.length]; exact hl) (by rw [List.size_toArray, ← rv.length]; exact hz) fun s' mv => fin rv (by rw [List.size_toArray, ← rv.length]; exact hz) s' mv))
  · obtain ⟨its, rv, pl, hz⟩ := I.list hq
    have hl' : s.heap.IsList a its.toArray := by
      obtain ⟨o, m, e, c, d, q⟩ := pl
      exact ⟨o, e, c, m, q⟩
    refine wpAny_bind (wpAny_holding (items_star_lst (I.ok.hd hc) hl' (by rw [List.size_toArray, ← rv.length]; exact hl) (by rw [List.size_toArray, ← rv.length]; exact hz) fun s' mv => fin rv (by rw [List.size_toArray, ← rv.length]; exact hz) s' mv))
theorem pgs_starred {e : Expr} {k : Pos} {t : TG} (h : PG X e t) (hs : (assignEach [.Starred e k] X.env).map (·.2) = [assign e X.env] := by rfl) : PGs X [.Starred e k] (L2.gCons t L2.gNil) := by
  refine ⟨fun pins s σ H vs us Q I r h0 => ?_⟩
  obtain ⟨v, vr, e1, h0⟩ := h0
  subst e1
  cases r with
  | cons r rr =>
    rw [hs]
    refine assignInOrder_cons (thn (h.run pins s σ H _ _ _ I r h0) fun _ s1 ⟨σ1, H1, I1, q1⟩ => ?_)
    obtain ⟨e2, q1⟩ := q1
    subst e2
    cases rr
    exact assignInOrder_nil ⟨σ1, H1, I1, q1⟩
/-- on data -/
def gStarD (i : Nat) (g : GsDen) : GDen
  | .tup ds, env, S => if i ≤ ds.length then g (ds.take i ++ [.loc S.length]) env (S ++ [.lst (ds.drop i)]) else none
  | .loc l, env, S => (lsAt S l).bind fun ds => if i ≤ ds.length then g (ds.take i ++ [.loc S.length]) env (S ++ [.lst (ds.drop i)]) else none
  | _, _, _ => none
theorem star_imp {G : Gx} {g : GsDen} {i : Nat} {gg : TGs} {v : V} {σ : L2.St} {H : Hp} {Q Q' : L2.St → Hp → Prop} (hg : ∀ vs H, tGs G g vs σ H Q → gg vs σ H Q') (h : tG G (gStarD i g) v σ H Q) : gStar G.K i gg v σ H Q' := by
  obtain ⟨ρ, env, S, d, env', S', he, hs, hr, hf, q⟩ := h
  have key : ∀ {ds : List D} {vs : List V}, RpL G ρ H ds vs → i ≤ ds.length → g (ds.take i ++ [.loc S.length]) env (S ++ [.lst (ds.drop i)]) = some (env', S') →
      ∀ p, H p = none → gg (vs.take i ++ [.ref p]) σ (upd H p (.lst (vs.drop i))) Q' := by
    intro ds vs l hi e p hp
    have st : Step ρ H ρ (upd H p (.lst (vs.drop i))) := Step.untracked hp
    have st2 := st.take hp
    refine hg _ _ ⟨ρ ++ [(p, true)], env, S ++ [.lst (ds.drop i)], ds.take i ++ [.loc S.length], env', S', he.step st2, ?_, ?_, e, fun ρ' σ' H' st3 he' sr' => q ρ' σ' H' (st2.trans st3) he' sr'⟩
    · exact (hs.untracked hp).ownL (hs.fresh hp) upd_same (RpL.drop _ (l.step st))
    · exact (RpL.take _ (l.step st2)).append (RpL.one (rp_loc hs))
  cases d with
  | tup ds =>
    simp only [gStarD] at hf
    split at hf
    · rename_i hi
      obtain ⟨a, vs, rfl, q1, l1⟩ := rp_vs hr
      exact ⟨a, vs, rfl, .inl q1, by rw [l1.length]; exact hi, key l1 hi hf⟩
    · cases hf
  | loc l =>
    simp only [gStarD] at hf
    obtain ⟨ds, h1, hf⟩ := Option.bind_eq_some_iff.mp hf
    split at hf
    · rename_i hi
      obtain ⟨a, hr2, rfl⟩ := rp_lc hr
      obtain ⟨a', vs, hr', q1, l1⟩ := lsAt_of hs h1
      rw [hr2] at hr'; cases hr'
      exact ⟨a.1, vs, rfl, .inr q1, by rw [l1.length]; exact hi, key l1 hi hf⟩
    · cases hf
  | _ => cases hf
theorem mg_star {es : List Expr} {g : GsDen} {k i : Nat} (hc : X.calm = true) (h : MGs X es g) (hn : (assignEach es X.env).length = i + 1 := by rfl) (hst : (assignEach es X.env).findIdx? (·.1) = some i := by rfl) : MG X (.Tuple es k pos) (gStarD i g) :=
  ⟨PG.weak (pg_star hc h.pgs hn hst) fun v σ H Q h => star_imp (fun _ _ z => z) h⟩
theorem mgs_starred {e : Expr} {f : GDen} {k : Pos} (h : MG X e f) (hs : (assignEach [.Starred e k] X.env).map (·.2) = [assign e X.env] := by rfl) : MGs X [.Starred e k] (ML.gCons f ML.gNil) := by
  refine ⟨PGs.weak (pgs_starred h.pg hs) fun v σ H Q h => ?_⟩
  obtain ⟨ρ, env, S, d, env', S', he, hs, hr, h, q⟩ := h
  cases d with
  | nil => cases h
  | cons d r =>
    obtain ⟨x, S1, h1, h2⟩ := bind2 (show (f d env S).bind _ = _ from h)
    simp only [RpL] at hr
    obtain ⟨w, t, rfl, rw1, rt⟩ := hr
    cases r with
    | nil =>
      cases h2
      simp only [RpL] at rt
      exact ⟨w, t, rfl, tG.bind he hs rw1 h1 fun ρ1 σ1 H1 st1 he1 sr1 => ⟨rt, q ρ1 σ1 H1 st1 he1 sr1⟩⟩
    | cons _ _ => cases h2
theorem gc_star {G : Gx} {i : Nat} {vs : List Nat} {gg : TGs} {g : GsDen} (h : GCs G gg g vs) : GC G (gStar G.K i gg) (gStarD i g) vs :=
  ⟨fun v σ H Q h' => star_imp (g := g) (gg := gg) (fun us H1 z => h.imp us σ H1 Q z) h'⟩
end
end ML

/-! dicts of the store; a text times a number -/
namespace ML
open PySem PySem.Spec PyProof.Rows L2
def valD (kvs : List (Key × D)) (k : Key) : Option D := (kvs.find? fun kv => decide (kv.1 = k)).map (·.2)
def putDK (kvs : List (Key × D)) (k : Key) (v : D) : List (Key × D) :=
  if (kvs.any fun kv => decide (kv.1 = k)) = true then kvs.map (fun kv => if kv.1 = k then (kv.1, v) else kv) else kvs ++ [(k, v)]
section
variable {G : Gx} {ρ : List Lo} {H : Hp}
theorem RpK.val {k : Key} : ∀ {kvs : List (Key × D)} {ws : List (Key × V)}, RpK G ρ H kvs ws → (valD kvs k = none → valV ws k = none) ∧ ∀ d, valD kvs k = some d → ∃ v, valV ws k = some v ∧ Rp G ρ H d v
  | [], ws, h => by
    simp only [RpK] at h
    subst h
    exact ⟨fun _ => rfl, fun d e => by cases e⟩
  | (k', x) :: r, ws, h => by
    simp only [RpK] at h
    obtain ⟨v, t, rfl, q, h⟩ := h
    obtain ⟨i1, i2⟩ := RpK.val (k := k) h
    by_cases e : k' = k
    · refine ⟨fun z => ?_, fun d z => ?_⟩
      · simp [valD, List.find?_cons, e] at z
      · have : d = x := by simpa [valD, List.find?_cons, e] using z.symm
        subst this
        exact ⟨v, valV_pos e, q⟩
    · have e2 : valD ((k', x) :: r) k = valD r k := by simp [valD, List.find?_cons, e]
      have e3 : valV ((k', v) :: t) k = valV t k := valV_neg e
      rw [e2, e3]
      exact ⟨i1, i2⟩
theorem RpK.any {k : Key} : ∀ {kvs : List (Key × D)} {ws : List (Key × V)}, RpK G ρ H kvs ws → (ws.any fun kv => decide (kv.1 = k)) = kvs.any fun kv => decide (kv.1 = k)
  | [], ws, h => by simp only [RpK] at h; subst h; rfl
  | (k', x) :: r, ws, h => by
    simp only [RpK] at h
    obtain ⟨v, t, rfl, q, h⟩ := h
    simp only [List.any_cons, RpK.any h]
theorem RpK.map {k : Key} {d : D} {u : V} (q0 : Rp G ρ H d u) : ∀ {kvs : List (Key × D)} {ws : List (Key × V)}, RpK G ρ H kvs ws → RpK G ρ H (kvs.map fun kv => if kv.1 = k then (kv.1, d) else kv) (ws.map fun kv => if kv.1 = k then (kv.1, u) else kv)
  | [], ws, h => by simp only [RpK] at h; subst h; simp only [List.map_nil, RpK]
  | (k', x) :: r, ws, h => by
    simp only [RpK] at h
    obtain ⟨v, t, rfl, q, h⟩ := h
    have ih := RpK.map (k := k) q0 h
    simp only [List.map_cons]
    by_cases e : k' = k
    · simp only [if_pos e, RpK]
      exact ⟨u, _, rfl, q0, ih⟩
    · simp only [if_neg e, RpK]
      exact ⟨v, _, rfl, q, ih⟩
theorem RpK.snoc {k : Key} {d : D} {u : V} (q0 : Rp G ρ H d u) : ∀ {kvs : List (Key × D)} {ws : List (Key × V)}, RpK G ρ H kvs ws → RpK G ρ H (kvs ++ [(k, d)]) (ws ++ [(k, u)])
  | [], ws, h => by
    simp only [RpK] at h; subst h
    show RpK G ρ H [(k, d)] [(k, u)]
    simp only [RpK]
    exact ⟨u, [], rfl, q0, rfl⟩
  | (k', x) :: r, ws, h => by
    simp only [RpK] at h
    obtain ⟨v, t, rfl, q, h⟩ := h
    show RpK G ρ H ((k', x) :: (r ++ [(k, d)])) ((k', v) :: (t ++ [(k, u)]))
    simp only [RpK]
    exact ⟨v, _, rfl, q, RpK.snoc q0 h⟩
theorem RpK.put {k : Key} {d : D} {u : V} (q0 : Rp G ρ H d u) {kvs : List (Key × D)} {ws : List (Key × V)} (h : RpK G ρ H kvs ws) : RpK G ρ H (putDK kvs k d) (putK ws k u) := by
  unfold putDK putK
  rw [RpK.any h]
  split
  · exact RpK.map q0 h
  · exact RpK.snoc q0 h
theorem RpK.length : ∀ {kvs : List (Key × D)} {ws : List (Key × V)}, RpK G ρ H kvs ws → ws.length = kvs.length
  | [], ws, h => by simp only [RpK] at h; subst h; rfl
  | (k', x) :: r, ws, h => by
    simp only [RpK] at h
    obtain ⟨v, t, rfl, q, h⟩ := h
    rw [List.length_cons, List.length_cons, RpK.length h]
end
def dkAt (S : Sto) : D → Option (List (Key × D))
  | .loc l => match S[l]? with
    | some (.dk kvs) => some kvs
    | _ => none
  | _ => none
theorem dkAt_ok {G : Gx} {ρ : List Lo} {H : Hp} {S : Sto} {d : D} {v : V} {kvs : List (Key × D)} (hs : SR G ρ H S) (r : Rp G ρ H d v) (e : dkAt S d = some kvs) : ∃ l a ws, d = .loc l ∧ S[l]? = some (.dk kvs) ∧ ρ[l]? = some (a, true) ∧ v = .ref a ∧ H a = some (.dK ws) ∧ RpK G ρ H kvs ws := by
  cases d with
  | loc l =>
    simp only [dkAt] at e
    split at e
    · rename_i k e1
      cases e
      obtain ⟨a, hr, rfl⟩ := rp_lc r
      obtain ⟨ws, h1, h2⟩ := hs.obj _ _ _ e1 hr
      have m := hs.mu _ _ _ e1 hr
      exact ⟨l, a.1, ws, rfl, e1, by rw [hr]; exact congrArg some (Prod.ext rfl m.symm), rfl, h1, h2⟩
    · cases e
  | _ => cases e
/-- k in d -/
def eInK (neg : Bool) (fi fo : Den) : Den := fun env S => (fi env S).bind fun p => (fo env p.2).bind fun q => (dKy p.1).bind fun k => (dkAt q.2 q.1).map fun kvs => (.bl (if neg = true then !(valD kvs k).isSome else (valD kvs k).isSome), q.2)
/-- d[k] = v -/
def sPutK (fv fo fi : Den) : SDen := fun env S => (fv env S).bind fun p => (fo env p.2).bind fun q => (fi env q.2).bind fun r => (dKy r.1).bind fun k => match q.1 with
  | .loc l => (dkAt r.2 (.loc l)).bind fun kvs => if kvs.length < sizeLine then some (.nx, env, r.2.set l (.dk (putDK kvs k p.1))) else none
  | _ => none
section
variable {X : Cx} {o e i a b value : Expr} {fo fi fv fa fb : Den} {pos pos' : Pos}
theorem inK_imp {G : Gx} {σ : L2.St} {H : Hp} {Q : VK} (h : tE G (eInK false fi fo) σ H Q) : tDIn (tE G fi) (tE G fo) σ H Q := by
  obtain ⟨ρ, env, S, d, S', he, hs, hf, q⟩ := h
  obtain ⟨x, S1, h1, hf⟩ := bind2 hf
  obtain ⟨y, S2, h2, hf⟩ := bind2 hf
  obtain ⟨k, h3, hf⟩ := Option.bind_eq_some_iff.mp hf
  obtain ⟨kvs, h4, hf⟩ := Option.map_eq_some_iff.mp hf
  cases hf
  refine tE.bind he hs h1 fun ρ1 v1 H1 st1 he1 sr1 r1 => tE.bind he1 sr1 h2 fun ρ2 v2 H2 st2 he2 sr2 r2 => ?_
  obtain ⟨l, a, ws, rfl, g1, g2, rfl, g3, g4⟩ := dkAt_ok sr2 r2 h4
  have ek := dKy_ok r1 h3
  subst ek
  refine ⟨a, valV ws k, rfl, DGet.k g3, ?_⟩
  obtain ⟨z1, z2⟩ := RpK.val (k := k) g4
  have e : (valV ws k).isSome = (valD kvs k).isSome := by
    cases hk : valD kvs k with
    | none => rw [z1 hk] <;> rfl
    | some d => obtain ⟨v, e, _⟩ := z2 d hk; rw [e]; rfl
  rw [e]
  exact q ρ2 _ H2 (st1.trans st2) sr2 (rp_of_bl _)
theorem me_inK (hu : X.A.units + 1 < cLine) (hi : ME X i fi) (ho : ME X o fo) (h1 : behindInMarks .In o = false := by rfl) : ME X (.Compare i [.In] [o] pos) (eInK false fi fo) := ⟨PE.weak (pe_cmp (pc_din hu hi.pe ho.pe) h1) fun _ _ _ h => inK_imp h⟩
theorem ms_putK (hu : X.A.units + 1 < cLine) (hv : ME X value fv) (ho : ME X o fo) (hi : ME X i fi) (hs : swapsWith value (some (.Subscript o i pos')) pos.line X.env = pure false := by rfl) : MS X (.Assign [.Subscript o i pos'] value pos) (sPutK fv fo fi) := by
  refine ⟨PS.weak (ps_dput hu ho.pe hi.pe hv.pe hs) fun De σ H h => ?_⟩
  obtain ⟨ρ, env, S, fl, env', S', he, hs, hf, q⟩ := h
  obtain ⟨x, S1, h1, hf⟩ := bind2 hf
  obtain ⟨y, S2, h2, hf⟩ := bind2 hf
  obtain ⟨z, S3, h3, hf⟩ := bind2 hf
  obtain ⟨k, h4, hf⟩ := Option.bind_eq_some_iff.mp hf
  refine tE.bind he hs h1 fun ρ1 v1 H1 st1 he1 sr1 r1 => tE.bind he1 sr1 h2 fun ρ2 v2 H2 st2 he2 sr2 r2 => tE.bind he2 sr2 h3 fun ρ3 v3 H3 st3 he3 sr3 r3 => ?_
  cases y with
  | loc l =>
    obtain ⟨kvs, h5, hf⟩ := Option.bind_eq_some_iff.mp hf
    split at hf
    · rename_i hz
      cases hf
      obtain ⟨l', a, ws, el, g1, g2, rfl, g3, g4⟩ := dkAt_ok sr3 (r2.step st3) h5
      cases el
      have ek := dKy_ok r3 h4
      subst ek
      have sw : Step ρ3 H3 ρ3 (upd H3 a (.dK (putK ws k v1))) := Step.write (List.mem_of_getElem? g2) g3 (fun _ => nofun) (fun _ _ => nofun)
      have sr := sr3.write (o := .dK (putK ws k v1)) (ob' := .dk (putDK kvs k x)) g2 g3 (fun _ => nofun) (fun _ _ => nofun) rfl ⟨putK ws k v1, upd_same, RpK.put ((r1.step st2).step (st3.trans sw)) (RpK.mon sw.toMon g4)⟩
      have s4 := ((st1.trans st2).trans st3).trans sw
      exact ⟨a, _, rfl, DPut.k g3 (by rw [g4.length]; exact hz), q ρ3 σ _ s4 (he3.step sw) sr⟩
    · cases hf
  | _ => cases hf
/-! ### a text times a number -/
def repS (x : Str) (n : Nat) : Str := ⟨(List.replicate n x.cps).foldl (· ++ ·) #[]⟩
def gMulT : Op2
  | .str x, .int k, S => if 2 ≤ k ∧ k ≤ 1000 ∧ 1 ≤ x.length ∧ x.length ≤ 1000 then some (.str (repS x k.toNat), S) else none
  | _, _, _ => none
def rMulT : R2 := fun x y H Q => ∃ z k, x = .str z ∧ y = .int k ∧ 2 ≤ k ∧ k ≤ 1000 ∧ 1 ≤ z.length ∧ z.length ≤ 1000 ∧ Q (.str (repS z k.toNat)) H
theorem op_mulT : OpR X (binaryOp .Mult) rMulT := by
  intro pins s σ H x y v u Q I rx ry h
  obtain ⟨z, k, rfl, rfl, h1, h2, h3, h4, q⟩ := h
  obtain ⟨t, rfl⟩ := rx
  obtain ⟨t', rfl⟩ := ry
  have htl : PySem.Builtin.Str.tooLong (z.length * k.toNat) = false := by
    have hle : z.length * k.toNat ≤ 1000 * 1000 := Nat.mul_le_mul h4 (by omega)
    have : ¬ z.length * k.toNat > sizeLine := by rw [sizeLine_eq]; omega
    exact decide_eq_false this
  refine PySem.P.mul_str ?_ ?_ (fun _ _ => htl) ?_
  · rw [decide_eq_false (by omega), decide_eq_false (by omega)]; rfl
  · intro _ _ hgt
    have h5 : (z.length : Int) ≤ 1000 := by omega
    have h6 : (1000 : Int) ≤ (2 ^ 63 - 1) / k := by
      rw [Int.le_ediv_iff_mul_le (by omega)]
      omega
    omega
  · rw [if_neg (by omega), if_neg (by
      have e1 : (k == 1) = false := beq_eq_false_iff_ne.mpr (by omega)
      have e2 : (z.length == 0) = false := beq_eq_false_iff_ne.mpr (by omega)
      rw [e1, e2]
      decide)]
    exact ⟨fits_reps htl, .str (repS z k.toNat), H, I.tok _, ⟨_, rfl⟩, q⟩
theorem imp_mulT {G : Gx} : Imp2 G gMulT rMulT := by
  rintro x y H Q ⟨ρ, S, d1, d2, d, S', hs, r1, r2, h, q⟩
  unfold gMulT at h
  split at h
  · split at h
    · rename_i hz
      cases h
      exact ⟨_, _, rp_str r1, rp_int r2, hz.1, hz.2.1, hz.2.2.1, hz.2.2.2, q ρ _ H (Step.refl _ _) hs (rp_of_str _)⟩
    · cases h
  · cases h
theorem me_mulT (ha : ME X a fa) (hb : ME X b fb) : ME X (.BinOp a .Mult b pos) (eOp gMulT fa fb) := me_op op_mulT imp_mulT ha hb
end
end ML

namespace ML
open PySem PySem.Spec PyProof.Rows L2
/-! ### xs.index(d): the first of the like, flat things -/
def mIndex : Mt
  | .loc l, [d], S => (lsAt S l).bind fun xs => (vs? xs).bind fun vs => d.v?.bind fun v => (vs.findIdx? fun z => eqV z v).map fun k => (.int (k : Nat), S)
  | _, _, _ => none
theorem imp_index {G : Gx} (x : V) (xs : List V) (H : Hp) (Q : VK) : rM G mIndex x xs H Q → rIndex G.K x xs H Q := by
  rintro ⟨ρ, S, d, ds, d', S', hs, r1, r2, h, q⟩
  unfold mIndex at h
  split at h
  · obtain ⟨ys, h1, h⟩ := Option.bind_eq_some_iff.mp h
    obtain ⟨vs, h2, h⟩ := Option.bind_eq_some_iff.mp h
    obtain ⟨v, h3, h⟩ := Option.bind_eq_some_iff.mp h
    obtain ⟨k, h4, h⟩ := Option.map_eq_some_iff.mp h
    cases h
    obtain ⟨a, us, hr, hq, lr⟩ := lsAt_of hs h1
    obtain ⟨a', hr', rfl⟩ := rp_lc r1
    rw [hr] at hr'
    cases hr'
    obtain ⟨e1, f1⟩ := vs?_ok h2 lr
    subst e1
    simp only [RpL] at r2
    obtain ⟨w, t, rfl, rw1, rfl⟩ := r2
    obtain ⟨e2, f2⟩ := v?_ok h3 rw1
    subst e2
    obtain ⟨g1, g2, g3⟩ := List.findIdx?_eq_some_iff_getElem.mp h4
    refine ⟨a.1, us, w, k, us[k], rfl, rfl, hq, f2, f1, List.getElem?_eq_getElem g1, g2, fun m z hm hz => ?_, q ρ _ H (Step.refl _ _) hs (rp_of_int _)⟩
    obtain ⟨li, ei⟩ := List.getElem?_eq_some_iff.mp hz
    have := g3 m hm
    rw [ei] at this
    simpa using this
  · cases h
section
variable {X : Cx} {c e : Expr} {es : List Expr} {fo : Den} {fs : ADen} {apos pos : Pos}
theorem mm_index (ho : ME X c fo) (ha : MA X (e :: es) fs)
    (hbase : attributeBase c "index" X.env (eval c X.env) = eval c X.env := by rfl)
    (hfew : ((backTo pos (starEach (e :: es) X.env)).all (fun x => !x.1) && (backToKw pos (keywordEach [] X.env)).all (fun x => x.1.isSome)
      && decide ((e :: es).length + ([] : List Keyword).length + (if ([] : List Keyword).isEmpty then 0 else 1) < 30)) = true := by rfl)
    (hline : (apos.endLine == pos.line) = true := by rfl) (hs : starEach (e :: es) X.env = (false, eval e X.env) :: starEach es X.env := by rfl) (hplain : (backTo pos (starEach es X.env)).any (·.1) = false := by rfl) : ME X (.Call (.Attribute c "index" apos) (e :: es) [] pos) (eMt mIndex fo fs) :=
  me_bm PySem.F.slot_list_index PySem.F.type_list_index mt_index imp_index ho ha hbase hfew hline hs hplain
end
end ML

/-! displays of dicts; not in a text -/
namespace ML
open PySem PySem.Spec PyProof.Rows L2
theorem units1 {k : Nat} {A : Around} (r : Room k A) : A.units + 1 < cLine := by have := r.un; omega
section
variable {X : Cx} {a b k v : Expr} {fa fb fk fv : Den} {pos : Pos} {ks : List (Option Expr)} {vs : List Expr}
/-! ### {k: v, ..} -/
end
end ML

namespace ML
open PySem PySem.Spec PyProof.Rows L2
section
variable {X : Cx} {o i : Expr} {fo fi : Den} {pos : Pos}
end
end ML

namespace ML
open PySem PySem.Spec PyProof.Rows L2
/-! ### any number times a small one -/
def gMulB : Op2
  | .int i, .int j, S => if -2 ^ 64 < j ∧ j < 2 ^ 64 then some (.int (i * j), S) else none
  | _, _, _ => none
theorem imp_mulB {G : Gx} : Imp2 G gMulB (rI CMul fun i j => V.int (i * j)) := by
  rintro x y H Q ⟨ρ, S, d1, d2, d, S', hs, r1, r2, h, q⟩
  unfold gMulB at h
  split at h
  · split at h
    · rename_i hz
      cases h
      exact ⟨_, _, rp_int r1, rp_int r2, .inr hz, q ρ _ H (Step.refl _ _) hs (rp_of_int _)⟩
    · cases h
  · cases h
section
variable {X : Cx} {a b : Expr} {fa fb : Den} {pos : Pos}
theorem me_mulB (ha : ME X a fa) (hb : ME X b fb) : ME X (.BinOp a .Mult b pos) (eOp gMulB fa fb) := me_op op_mul imp_mulB ha hb
end
end ML

namespace ML
open PySem PySem.Spec PyProof.Rows L2
noncomputable def p_is_name : Fn := mkFn 1 2 (sCons (sRet (eAnd (eChain cLe cLe (eC (.int 1)) (eCall bLen (aCons (eVar 0) aNil)) (eC (.int 8))) (eU gAllU (uLc (iSeqT (eVar 0)) (ML.gName 1) ML.tYes (eOp (gInT false) (eVar 1) (eC (.str "abcdefghijklmnopqrstuvwxyz"))) [1])))) sNil)
noncomputable def p_whole_in : Fn := mkFn 1 3 (sCons (sAsg (eVar 0) (ML.gName 1)) (sCons (sIf (tTru (eTm tmStarts (eVar 0) (eC (.str "-")))) (sCons (sAsg (eSlS (eVar 0) (oSome (eC (.int 1))) oNone) (ML.gName 1)) sNil) sNil) (sCons (sIf (ML.tOr (ML.tNot (asB (eChain cLe cLe (eC (.int 1)) (eCall bLen (aCons (eVar 1) aNil)) (eC (.int 6))))) (ML.tNot (tTru (eU gAllU (uLc (iSeqT (eVar 1)) (ML.gName 2) ML.tYes (eOp (gInT false) (eVar 2) (eC (.str "0123456789"))) [2]))))) (sCons (sRet (eC .non)) sNil) sNil) (sCons (sIf (ML.tAnd (asB (eOp cEq (eOp gIx (eVar 1) (eC (.int 0))) (eC (.str "0")))) (asB (eOp cNe (eVar 0) (eC (.str "0"))))) (sCons (sRet (eC .non)) sNil) sNil) (sCons (sRet (eCall bIntT (aCons (eVar 0) aNil))) sNil)))))
noncomputable def p_common : Fn := mkFn 2 2 (sCons (sWhile (asB (eOp cNe (eVar 1) (eC (.int 0)))) (sCons (sPar 0 1 (aCons (eVar 1) (aCons (eOp gMod (eVar 0) (eVar 1)) aNil))) sNil)) (sCons (sRet (eVar 0)) sNil))
noncomputable def p_number_in : Fn := mkFn 1 6 (sCons (sAsg (eTm tmPart (eVar 0) (eC (.str "/"))) (ML.gTup 3 (ML.gCons (ML.gName 1) (ML.gCons (ML.gName 2) (ML.gCons (ML.gName 3) ML.gNil))))) (sCons (sAsg (eCall p_whole_in (aCons (eVar 1) aNil)) (ML.gName 4)) (sCons (sIf (ML.tOr (asB (eOp cEq (eVar 2) (eC (.str "")))) (asB (eOp cIs (eVar 4) (eC .non)))) (sCons (sRet (eIf (asB (eOp cIs (eVar 4) (eC .non))) (eC .non) (eTup (aCons (eVar 4) (aCons (eC (.int 1)) aNil))))) sNil) sNil) (sCons (sAsg (eCall p_whole_in (aCons (eVar 3) aNil)) (ML.gName 5)) (sCons (sIf (ML.tOr (asB (eOp cIs (eVar 5) (eC .non))) (ML.tOr (asB (eOp cLt (eVar 5) (eC (.int 2)))) (asB (eOp cNe (eCall p_common (aCons (eCall bAbs (aCons (eVar 4) aNil)) (aCons (eVar 5) aNil))) (eC (.int 1)))))) (sCons (sRet (eC .non)) sNil) sNil) (sCons (sRet (eTup (aCons (eVar 4) (aCons (eVar 5) aNil)))) sNil))))))
noncomputable def p_words_of : Fn := mkFn 1 3 (sCons (sAsgU (uLc (iSeq (eTm tmSplit (eVar 0) (eC (.str " ")))) (ML.gName 2) (asB (eOp cNe (eVar 2) (eC (.str "")))) (eVar 2) [2]) 1) (sCons (sIf (ML.tAnd (asB (eOp cGt (eCall bLen (aCons (eVar 1) aNil)) (eC (.int 0)))) (tTru (eTm tmStarts (eOp gIx (eVar 1) (eC (.int 0))) (eC (.str "#"))))) (sCons (sRet (eOwn (uLst aNil))) sNil) sNil) (sCons (sRet (eVar 1)) sNil)))
noncomputable def p_is_short : Fn := mkFn 1 2 (sCons (sRet (eAnd (eOp cLe (eCall bLen (aCons (eVar 0) aNil)) (eC (.int 200))) (eU gAllU (uLc (iSeqT (eVar 0)) (ML.gName 1) ML.tYes (eChain cLeT cLeT (eC (.str " ")) (eVar 1) (eC (.str "~"))) [1])))) sNil)
noncomputable def p_is_shaped : Fn := mkFn 1 1 (sCons (sIf (asB (eOp (gIn true) (eCall bLen (aCons (eVar 0) aNil)) (eTabG [("box", .tup [.int 8]), ("ball", .tup [.int 6]), ("half", .tup [.int 6]), ("join", .tup [.int 4]), ("cut", .tup [.int 4]), ("meet", .tup [.int 4]), ("slide", .tup [.int 6]), ("turn", .tup [.int 6]), ("show", .tup [.int 3, .int 4, .int 7, .int 8]), ("lamp", .tup [.int 5]), ("look", .tup [.int 16])] (eOp gIx (eVar 0) (eC (.int 0))) (eTup aNil)))) (sCons (sRet (eC (.bl false))) sNil) sNil) (sCons (sIf (ML.tOr (asB (eOp cNe (eOp gIx (eVar 0) (eC (.int 0))) (eC (.str "show")))) (asB (eOp cEq (eCall bLen (aCons (eVar 0) aNil)) (eC (.int 3))))) (sCons (sRet (eC (.bl true))) sNil) sNil) (sCons (sIf (ML.tAnd (asB (eOp (gIn false) (eCall bLen (aCons (eVar 0) aNil)) (eTup (aCons (eC (.int 4)) (aCons (eC (.int 8)) aNil))))) (asB (eOp cNe (eOp gIx (eVar 0) (eC (.int 3))) (eC (.str "mirror"))))) (sCons (sRet (eC (.bl false))) sNil) sNil) (sCons (sRet (eOr (eOp cEq (eCall bLen (aCons (eVar 0) aNil)) (eC (.int 4))) (eOp cEq (eOp gIx (eVar 0) (eUn gNeg (eC (.int 4)))) (eC (.str "move"))))) sNil))))
noncomputable def p_names_in : Fn := mkFn 1 2 (sCons (sRet (eOwn (uLc (iSeq (eTabG [("join", .tup [.int 1, .int 2, .int 3]), ("cut", .tup [.int 1, .int 2, .int 3]), ("meet", .tup [.int 1, .int 2, .int 3]), ("slide", .tup [.int 1, .int 2]), ("turn", .tup [.int 1, .int 2]), ("show", .tup [.int 1, .int 2])] (eOp gIx (eVar 0) (eC (.int 0))) (eTup (aCons (eC (.int 1)) aNil)))) (ML.gName 1) ML.tYes (eOp gIx (eVar 0) (eVar 1)) [1]))) sNil)
noncomputable def p_numbers_in : Fn := mkFn 1 3 (sCons (sIf (asB (eOp cEq (eOp gIx (eVar 0) (eC (.int 0))) (eC (.str "show")))) (sCons (sRet (eIf (asB (eOp cGt (eCall bLen (aCons (eVar 0) aNil)) (eC (.int 4)))) (eSl (eVar 0) (oSome (eOp gSub (eCall bLen (aCons (eVar 0) aNil)) (eC (.int 3)))) oNone) (eOwn (uLst aNil)))) sNil) sNil) (sCons (sAsg (eTabG [("box", .tup [.int 2, .int 8]), ("ball", .tup [.int 2, .int 6]), ("half", .tup [.int 2, .int 6]), ("slide", .tup [.int 3, .int 6]), ("turn", .tup [.int 4, .int 6]), ("lamp", .tup [.int 2, .int 5]), ("look", .tup [.int 2, .int 14])] (eOp gIx (eVar 0) (eC (.int 0))) (eTup (aCons (eC (.int 0)) (aCons (eC (.int 0)) aNil)))) (ML.gTup 2 (ML.gCons (ML.gName 1) (ML.gCons (ML.gName 2) ML.gNil)))) (sCons (sRet (eSl (eVar 0) (oSome (eVar 1)) (oSome (eVar 2)))) sNil)))
noncomputable def p_is_cells : Fn := mkFn 2 3 (sCons (sAsg (eCall p_whole_in (aCons (eVar 0) aNil)) (ML.gName 2)) (sCons (sRet (eAnd (eOp cIsNot (eVar 2) (eC .non)) (eChain cLe cLe (eC (.int 1)) (eVar 2) (eVar 1)))) sNil))
noncomputable def p_between : Fn := mkFn 2 4 (sCons (sRet (eU gTupU (uLc (iZip (aCons (eVar 0) (aCons (eVar 1) aNil))) (ML.gTup 2 (ML.gCons (ML.gName 2) (ML.gCons (ML.gName 3) ML.gNil))) ML.tYes (eCall p_minus (aCons (eVar 3) (aCons (eVar 2) aNil))) [2, 3]))) sNil)
noncomputable def p_across : Fn := mkFn 2 4 (sCons (sRet (eU gTupU (uLc (iSeq (eTup (aCons (eTup (aCons (eC (.int 1)) (aCons (eC (.int 2)) aNil))) (aCons (eTup (aCons (eC (.int 2)) (aCons (eC (.int 0)) aNil))) (aCons (eTup (aCons (eC (.int 0)) (aCons (eC (.int 1)) aNil))) aNil))))) (ML.gTup 2 (ML.gCons (ML.gName 2) (ML.gCons (ML.gName 3) ML.gNil))) ML.tYes (eCall p_minus (aCons (eCall p_times (aCons (eOp gIx (eVar 0) (eVar 2)) (aCons (eOp gIx (eVar 1) (eVar 3)) aNil))) (aCons (eCall p_times (aCons (eOp gIx (eVar 0) (eVar 3)) (aCons (eOp gIx (eVar 1) (eVar 2)) aNil))) aNil))) [2, 3]))) sNil)
noncomputable def p_is_box_ : Fn := mkFn 1 3 (sCons (sRet (eU gAllU (uLc (iZip (aCons (eSl (eVar 0) oNone (oSome (eC (.int 3)))) (aCons (eSl (eVar 0) (oSome (eC (.int 3))) oNone) aNil))) (ML.gTup 2 (ML.gCons (ML.gName 1) (ML.gCons (ML.gName 2) ML.gNil))) ML.tYes (eOp cGt (eCall p_sign (aCons (eCall p_minus (aCons (eVar 2) (aCons (eVar 1) aNil))) aNil)) (eC (.int 0))) [1, 2]))) sNil)
noncomputable def p_is_ball : Fn := mkFn 1 1 (sCons (sRet (eOp cGt (eCall p_sign (aCons (eOp gIx (eVar 0) (eC (.int 3))) aNil)) (eC (.int 0)))) sNil)
noncomputable def p_is_half : Fn := mkFn 1 1 (sCons (sRet (eOp cNe (eCall bTuple (aCons (eSl (eVar 0) oNone (oSome (eC (.int 3)))) aNil)) (eC (.tup [.tup [.int 0, .int 1], .tup [.int 0, .int 1], .tup [.int 0, .int 1]])))) sNil)
noncomputable def p_is_turn : Fn := mkFn 1 1 (sCons (sRet (eOp cEq (eCall p_plus (aCons (eCall p_times (aCons (eOp gIx (eVar 0) (eC (.int 0))) (aCons (eOp gIx (eVar 0) (eC (.int 0))) aNil))) (aCons (eCall p_times (aCons (eOp gIx (eVar 0) (eC (.int 1))) (aCons (eOp gIx (eVar 0) (eC (.int 1))) aNil))) aNil))) (eC (.tup [.int 1, .int 1])))) sNil)
noncomputable def p_is_window : Fn := mkFn 1 2 (sCons (sAsg (eCall p_between (aCons (eSl (eVar 0) oNone (oSome (eC (.int 3)))) (aCons (eSl (eVar 0) (oSome (eC (.int 3))) (oSome (eC (.int 6)))) aNil))) (ML.gName 1)) (sCons (sRet (eOp cNe (eCall p_dot (aCons (eCall p_across (aCons (eSl (eVar 0) (oSome (eC (.int 6))) (oSome (eC (.int 9)))) (aCons (eSl (eVar 0) (oSome (eC (.int 9))) (oSome (eC (.int 12)))) aNil))) (aCons (eVar 1) aNil))) (eC (.tup [.int 0, .int 1])))) sNil))
noncomputable def p_is_any : Fn := mkFn 1 1 (sCons (sRet (eC (.bl true))) sNil)
noncomputable def p_form_of : Fn := mkFn 3 4 (sCons (sAsg (eOp gIx (eVar 0) (eC (.int 0))) (ML.gName 3)) (sCons (sIf (asB (eOp cEq (eVar 3) (eC (.str "box")))) (sCons (sRet (eTup (aCons (eVar 3) (aCons (eCall bTuple (aCons (eSl (eVar 1) oNone (oSome (eC (.int 3)))) aNil)) (aCons (eCall bTuple (aCons (eSl (eVar 1) (oSome (eC (.int 3))) oNone) aNil)) aNil))))) sNil) sNil) (sCons (sIf (asB (eOp (gIn false) (eVar 3) (eTup (aCons (eC (.str "ball")) (aCons (eC (.str "half")) aNil))))) (sCons (sRet (eTup (aCons (eVar 3) (aCons (eCall bTuple (aCons (eSl (eVar 1) oNone (oSome (eC (.int 3)))) aNil)) (aCons (eOp gIx (eVar 1) (eC (.int 3))) aNil))))) sNil) sNil) (sCons (sIf (asB (eOp cEq (eVar 3) (eC (.str "slide")))) (sCons (sRet (eTup (aCons (eVar 3) (aCons (eOp gIx (eVar 2) (eC (.int 0))) (aCons (eCall bTuple (aCons (eVar 1) aNil)) aNil))))) sNil) sNil) (sCons (sIf (asB (eOp cEq (eVar 3) (eC (.str "turn")))) (sCons (sRet (eTup (aCons (eVar 3) (aCons (eOp gIx (eVar 2) (eC (.int 0))) (aCons (eOp gIx (eVar 0) (eC (.int 3))) (aCons (eOp gIx (eVar 1) (eC (.int 0))) (aCons (eOp gIx (eVar 1) (eC (.int 1))) aNil))))))) sNil) sNil) (sCons (sRet (eOp gAdd (eTup (aCons (eVar 3) aNil)) (eCall bTuple (aCons (eVar 2) aNil)))) sNil))))))
noncomputable def p_KDraft___init__ : Fn := mkFn 1 1 (sCons (sAttr "Draft" "bodies" (eOwn (uLst aNil)) (eVar 0)) (sCons (sAttr "Draft" "leaves" (eOwn (uLst aNil)) (eVar 0)) (sCons (sAttr "Draft" "body_rows" eDk0 (eVar 0)) (sCons (sAttr "Draft" "things" (eOwn (uLst aNil)) (eVar 0)) (sCons (sAttr "Draft" "thing_rows" eDk0 (eVar 0)) (sCons (sAttr "Draft" "lamps" (eOwn (uLst aNil)) (eVar 0)) (sCons (sAttr "Draft" "looks" (eOwn (uLst aNil)) (eVar 0)) (sCons (sAttr "Draft" "wrongs" (eOwn (uLst aNil)) (eVar 0)) sNil))))))))
noncomputable def p_KDraft_number_of : Fn := mkFn 2 4 (sCons (sRet (eMt mIndex (eOwn (uLc (iSeq (eFld "Draft" "bodies" (eVar 0))) (ML.gTup 2 (ML.gCons (ML.gName 2) (ML.gCons (ML.gName 3) ML.gNil))) ML.tYes (eVar 2) [2, 3])) (aCons (eVar 1) aNil))) sNil)
noncomputable def p_KDraft_is_many : Fn := mkFn 2 2 (sCons (sIf (asB (eOp cEq (eOp gIx (eVar 1) (eC (.int 0))) (eC (.str "show")))) (sCons (sRet (eOr (eOp cEq (eCall bLen (aCons (eFld "Draft" "things" (eVar 0)) aNil)) (eC (.int 8))) (eOp cGt (eOp gIx (eFld "Draft" "leaves" (eVar 0)) (eMeth "Draft" "number_of" p_KDraft_number_of (eVar 0) (aCons (eOp gIx (eVar 1) (eC (.int 1))) aNil))) (eC (.int 8))))) sNil) sNil) (sCons (sIf (asB (eOp cEq (eOp gIx (eVar 1) (eC (.int 0))) (eC (.str "lamp")))) (sCons (sRet (eOp cEq (eCall bLen (aCons (eFld "Draft" "lamps" (eVar 0)) aNil)) (eC (.int 3)))) sNil) sNil) (sCons (sIf (asB (eOp cEq (eOp gIx (eVar 1) (eC (.int 0))) (eC (.str "look")))) (sCons (sRet (eOp cEq (eCall bLen (aCons (eFld "Draft" "looks" (eVar 0)) aNil)) (eC (.int 4)))) sNil) sNil) (sCons (sRet (eOp cEq (eCall bLen (aCons (eFld "Draft" "bodies" (eVar 0)) aNil)) (eC (.int 40)))) sNil))))
noncomputable def p_KDraft_is_twice : Fn := mkFn 2 8 (sCons (sAsg (eVar 1) (gStarD 2 (ML.gCons (ML.gName 2) (ML.gCons (ML.gName 3) (ML.gCons (ML.gName 4) ML.gNil))))) (sCons (sIf (asB (eOp cEq (eVar 2) (eC (.str "show")))) (sCons (sRet (eInK false (eVar 3) (eFld "Draft" "thing_rows" (eVar 0)))) sNil) sNil) (sCons (sIf (asB (eOp cEq (eVar 2) (eC (.str "lamp")))) (sCons (sRet (eOp (gIn false) (eVar 3) (eOwn (uLc (iSeq (eFld "Draft" "lamps" (eVar 0))) (ML.gTup 2 (ML.gCons (ML.gName 5) (ML.gCons (ML.gName 6) ML.gNil))) ML.tYes (eVar 5) [5, 6])))) sNil) sNil) (sCons (sIf (asB (eOp cEq (eVar 2) (eC (.str "look")))) (sCons (sRet (eOp (gIn false) (eVar 3) (eOwn (uLc (iSeq (eFld "Draft" "looks" (eVar 0))) (gStarD 1 (ML.gCons (ML.gName 5) (ML.gCons (ML.gName 7) ML.gNil))) ML.tYes (eVar 5) [5, 7])))) sNil) sNil) (sCons (sRet (eInK false (eVar 3) (eFld "Draft" "body_rows" (eVar 0)))) sNil)))))
noncomputable def p_KDraft_spoken : Fn := mkFn 2 2 (sCons (sIf (asB (eOp (gIn false) (eOp gIx (eVar 1) (eC (.int 0))) (eC (.tup [.str "join", .str "cut", .str "meet"])))) (sCons (sRet (eSl (eVar 1) (oSome (eC (.int 2))) (oSome (eC (.int 4))))) sNil) sNil) (sCons (sIf (asB (eOp (gIn false) (eOp gIx (eVar 1) (eC (.int 0))) (eC (.tup [.str "slide", .str "turn"])))) (sCons (sRet (eSl (eVar 1) (oSome (eC (.int 2))) (oSome (eC (.int 3))))) sNil) sNil) (sCons (sRet (eIf (asB (eOp cEq (eOp gIx (eVar 1) (eC (.int 0))) (eC (.str "show")))) (eSl (eVar 1) (oSome (eC (.int 1))) (oSome (eC (.int 2)))) (eOwn (uLst aNil)))) sNil)))
noncomputable def p_KDraft_fault : Fn := mkFn 2 5 (sCons (sIf (ML.tNot (tTru (eCall p_is_shaped (aCons (eVar 1) aNil)))) (sCons (sRet (eC (.str "word"))) sNil) sNil) (sCons (sIf (ML.tNot (tTru (eU gAllU (uLc (iSeq (eCall p_names_in (aCons (eVar 1) aNil))) (ML.gName 3) ML.tYes (eCall p_is_name (aCons (eVar 3) aNil)) [3])))) (sCons (sRet (eC (.str "name"))) sNil) sNil) (sCons (sIf (ML.tAnd (asB (eOp cEq (eOp gIx (eVar 1) (eC (.int 0))) (eC (.str "turn")))) (asB (eOp (gIn true) (eOp gIx (eVar 1) (eC (.int 3))) (eC (.tup [.str "x", .str "y", .str "z"]))))) (sCons (sRet (eC (.str "axis"))) sNil) sNil) (sCons (sIf (asB (eInDU (eC .non) (uLc (iSeq (eCall p_numbers_in (aCons (eVar 1) aNil))) (ML.gName 4) ML.tYes (eCall p_number_in (aCons (eVar 4) aNil)) [4]))) (sCons (sRet (eC (.str "number"))) sNil) sNil) (sCons (sIf (ML.tAnd (asB (eOp cEq (eOp gIx (eVar 1) (eC (.int 0))) (eC (.str "look")))) (ML.tNot (tTru (eU gAllU (uLc (iSeq (eSl (eVar 1) (oSome (eC (.int 14))) oNone)) (ML.gName 4) ML.tYes (eCall p_is_cells (aCons (eVar 4) (aCons (eC (.int 12)) aNil))) [4]))))) (sCons (sRet (eC (.str "number"))) sNil) sNil) (sCons (sIf (ML.tNot (tTru (eU gAllU (uLc (iSeq (eMeth "Draft" "spoken" p_KDraft_spoken (eVar 0) (aCons (eVar 1) aNil))) (ML.gName 3) ML.tYes (eInK false (eVar 3) (eFld "Draft" "body_rows" (eVar 0))) [3])))) (sCons (sRet (eC (.str "none"))) sNil) sNil) (sCons (sIf (tTru (eMeth "Draft" "is_twice" p_KDraft_is_twice (eVar 0) (aCons (eVar 1) aNil))) (sCons (sRet (eC (.str "twice"))) sNil) sNil) (sCons (sAsg (eTabG [("box", .fn "is_box"), ("ball", .fn "is_ball"), ("half", .fn "is_half"), ("turn", .fn "is_turn"), ("look", .fn "is_window")] (eOp gIx (eVar 1) (eC (.int 0))) (eC (.fn "is_any"))) (ML.gName 2)) (sCons (sIf (ML.tNot (tTru (eCallV 2 [("is_any", p_is_any), ("is_ball", p_is_ball), ("is_box", p_is_box_), ("is_half", p_is_half), ("is_turn", p_is_turn), ("is_window", p_is_window)] (aCons (eOwn (uLc (iSeq (eCall p_numbers_in (aCons (eVar 1) aNil))) (ML.gName 4) ML.tYes (eCall p_number_in (aCons (eVar 4) aNil)) [4])) aNil)))) (sCons (sRet (eC (.str "kind"))) sNil) sNil) (sCons (sIf (tTru (eMeth "Draft" "is_many" p_KDraft_is_many (eVar 0) (aCons (eVar 1) aNil))) (sCons (sRet (eC (.str "many"))) sNil) sNil) (sCons (sRet (eC (.str ""))) sNil)))))))))))
noncomputable def p_KDraft_make : Fn := mkFn 3 11 (sCons (sAsg (eOwn (uLc (iSeq (eCall p_numbers_in (aCons (eVar 2) aNil))) (ML.gName 8) ML.tYes (eCall p_number_in (aCons (eVar 8) aNil)) [8])) (ML.gName 3)) (sCons (sIf (asB (eOp cEq (eOp gIx (eVar 2) (eC (.int 0))) (eC (.str "show")))) (sCons (sAsg (eIf (asB (eOp cGt (eCall bLen (aCons (eVar 3) aNil)) (eC (.int 0)))) (eCall bTuple (aCons (eVar 3) aNil)) (eC (.tup [.tup [.int 0, .int 1], .tup [.int 0, .int 1], .tup [.int 0, .int 1]]))) (ML.gName 4)) (sCons (sAsg (eAnd (eOp (gIn false) (eCall bLen (aCons (eVar 2) aNil)) (eTup (aCons (eC (.int 4)) (aCons (eC (.int 8)) aNil)))) (eOp cEq (eOp gIx (eVar 2) (eC (.int 3))) (eC (.str "mirror")))) (ML.gName 5)) (sCons (sExpr (eMt mAppend (eFld "Draft" "things" (eVar 0)) (aCons (eTup (aCons (eMeth "Draft" "number_of" p_KDraft_number_of (eVar 0) (aCons (eOp gIx (eVar 2) (eC (.int 1))) aNil)) (aCons (eOp gIx (eVar 2) (eC (.int 2))) (aCons (eVar 5) (aCons (eVar 4) aNil))))) aNil))) (sCons (sPutK (eVar 1) (eFld "Draft" "thing_rows" (eVar 0)) (eOp gIx (eVar 2) (eC (.int 1)))) sNil)))) (sCons (sIf (asB (eOp cEq (eOp gIx (eVar 2) (eC (.int 0))) (eC (.str "lamp")))) (sCons (sExpr (eMt mAppend (eFld "Draft" "lamps" (eVar 0)) (aCons (eTup (aCons (eOp gIx (eVar 2) (eC (.int 1))) (aCons (eCall bTuple (aCons (eVar 3) aNil)) aNil))) aNil))) sNil) (sCons (sIf (asB (eOp cEq (eOp gIx (eVar 2) (eC (.int 0))) (eC (.str "look")))) (sCons (sAsgU (uLc (iSeq (eTup (aCons (eC (.int 0)) (aCons (eC (.int 3)) (aCons (eC (.int 6)) (aCons (eC (.int 9)) aNil)))))) (ML.gName 9) ML.tYes (eCall bTuple (aCons (eSl (eVar 3) (oSome (eVar 9)) (oSome (eOp gAdd (eVar 9) (eC (.int 3))))) aNil)) [9]) 6) (sCons (sExpr (eMt mAppend (eFld "Draft" "looks" (eVar 0)) (aCons (eOp gAdd (eOp gAdd (eTup (aCons (eOp gIx (eVar 2) (eC (.int 1))) aNil)) (eCall bTuple (aCons (eVar 6) aNil))) (eTup (aCons (eCall bIntT (aCons (eOp gIx (eVar 2) (eC (.int 14))) aNil)) (aCons (eCall bIntT (aCons (eOp gIx (eVar 2) (eC (.int 15))) aNil)) aNil)))) aNil))) sNil)) (sCons (sAsgU (uLc (iSeq (eMeth "Draft" "spoken" p_KDraft_spoken (eVar 0) (aCons (eVar 2) aNil))) (ML.gName 10) ML.tYes (eMeth "Draft" "number_of" p_KDraft_number_of (eVar 0) (aCons (eVar 10) aNil)) [10]) 7) (sCons (sExpr (eMt mAppend (eFld "Draft" "bodies" (eVar 0)) (aCons (eTup (aCons (eOp gIx (eVar 2) (eC (.int 1))) (aCons (eCall p_form_of (aCons (eVar 2) (aCons (eVar 3) (aCons (eVar 7) aNil)))) aNil))) aNil))) (sCons (sExpr (eMt mAppend (eFld "Draft" "leaves" (eVar 0)) (aCons (eIf (asB (eOp cGt (eCall bLen (aCons (eVar 7) aNil)) (eC (.int 0)))) (eU gSumU (uLc (iSeq (eVar 7)) (ML.gName 9) ML.tYes (eOp gIx (eFld "Draft" "leaves" (eVar 0)) (eVar 9)) [9])) (eC (.int 1))) aNil))) (sCons (sPutK (eVar 1) (eFld "Draft" "body_rows" (eVar 0)) (eOp gIx (eVar 2) (eC (.int 1)))) sNil))))) sNil)) sNil)) sNil))
noncomputable def p_KDraft_take : Fn := mkFn 3 5 (sCons (sIf (ML.tOr (asB (eOp cGe (eVar 1) (eC (.int 80)))) (ML.tNot (tTru (eCall p_is_short (aCons (eVar 2) aNil))))) (sCons (sExpr (eMt mAppend (eFld "Draft" "wrongs" (eVar 0)) (aCons (eTup (aCons (eVar 1) (aCons (eC (.str "long")) aNil))) aNil))) (sCons sRetN sNil)) sNil) (sCons (sAsg (eCall p_words_of (aCons (eVar 2) aNil)) (ML.gName 3)) (sCons (sIf (asB (eOp cGt (eCall bLen (aCons (eVar 3) aNil)) (eC (.int 0)))) (sCons (sAsg (eMeth "Draft" "fault" p_KDraft_fault (eVar 0) (aCons (eVar 3) aNil)) (ML.gName 4)) (sCons (sIf (asB (eOp cNe (eVar 4) (eC (.str "")))) (sCons (sExpr (eMt mAppend (eFld "Draft" "wrongs" (eVar 0)) (aCons (eTup (aCons (eVar 1) (aCons (eVar 4) aNil))) aNil))) sNil) (sCons (sExpr (eMeth "Draft" "make" p_KDraft_make (eVar 0) (aCons (eVar 1) (aCons (eVar 3) aNil)))) sNil)) sNil)) sNil) sNil)))
noncomputable def p_drafted : Fn := mkFn 1 4 (sCons (sAsg (eMake "Draft" p_KDraft___init__ aNil) (ML.gName 1)) (sCons (sFor (iEnumA (aCons (eTm tmSplit (eVar 0) (eC (.str "\n"))) aNil)) (ML.gTup 2 (ML.gCons (ML.gName 2) (ML.gCons (ML.gName 3) ML.gNil))) (sCons (sExpr (eMeth "Draft" "take" p_KDraft_take (eVar 1) (aCons (eVar 2) (aCons (eVar 3) aNil)))) sNil)) (sCons (sRet (eVar 1)) sNil)))
noncomputable def p_faults : Fn := mkFn 1 1 (sCons (sIf (ML.tNot (tTru (eCall bIsi (aCons (eVar 0) (aCons (eC (.ty "str")) aNil))))) (sCons (sRet (eTup (aCons (eTup (aCons (eC (.int 0)) (aCons (eC (.str "long")) aNil))) aNil))) sNil) sNil) (sCons (sRet (eCall bTuple (aCons (eFld "Draft" "wrongs" (eCall p_drafted (aCons (eVar 0) aNil))) aNil))) sNil))
noncomputable def s_deck : Fn := mkFn 1 3 (sCons (sAsg (eOp gAdd (eOwn (uLi (eSl (eVar 0) oNone (oSome (eC (.int 63)))))) (eOp gMul (eOwn (uLst (aCons (eC (.int 0)) aNil))) (eCall bInt (aCons (eOp cEq (eCall bLen (aCons (eVar 0) aNil)) (eC (.int 0))) aNil)))) (ML.gName 1)) (sCons (sRet (eOwn (uLst (aCons (eVar 1) (aCons (eC (.int 0)) (aCons (eOwn (uLc (iSeq (eVar 1)) (ML.gName 2) ML.tYes (eOp gMulB (eVar 2) (eCall bInt (aCons (eOp cGe (eVar 2) (eOp gPow (eC (.int 10)) (eC (.int 18)))) aNil))) [2])) aNil)))))) sNil))
noncomputable def s_next : Fn := mkFn 2 8 (sCons (sAsg (eVar 0) (gTupL 3 (ML.gCons (ML.gName 2) (ML.gCons (ML.gName 3) (ML.gCons (ML.gName 4) ML.gNil))))) (sCons (sAsg (eOp gMod (eVar 3) (eCall bLen (aCons (eVar 2) aNil))) (ML.gName 5)) (sCons (sAsg (eOp gAdd (eVar 3) (eC (.int 1))) (gPut (eVar 0) (eC (.int 1)))) (sCons (sIf (asB (eOp cGt (eOp gIx (eVar 4) (eVar 5)) (eC (.int 0)))) (sCons (sAsg (eOp gMod (eOp gIx (eVar 4) (eVar 5)) (eVar 1)) (ML.gName 6)) (sCons (sAsg (eOp gFdiv (eOp gIx (eVar 4) (eVar 5)) (eVar 1)) (gPut (eVar 4) (eVar 5))) (sCons (sRet (eVar 6)) sNil))) sNil) (sCons (sAsg (eOp gMod (eOp gAdd (eOp gAdd (eOp gIx (eVar 2) (eVar 5)) (eOp gMul (eC (.int 1000003)) (eVar 3))) (eC (.int 77))) (eC (.int 2147483647))) (ML.gName 7)) (sCons (sAsg (eOp gMod (eOp gPow (eVar 7) (eC (.int 5))) (eC (.int 2147483629))) (ML.gName 7)) (sCons (sAsg (eOp gMod (eOp gPow (eOp gAdd (eOp gAdd (eVar 7) (eOp gMul (eC (.int 104729)) (eOp gMod (eVar 3) (eC (.int 9973))))) (eC (.int 1))) (eC (.int 3))) (eC (.int 2305843009213693951))) (ML.gName 7)) (sCons (sRet (eOp gMod (eOp gFdiv (eVar 7) (eC (.int 8))) (eVar 1))) sNil))))))))
end ML

namespace ML
open PySem PySem.Spec PyProof.Rows L2
/-! ### len of a dict -/
section
variable {X : Cx} {e : Expr} {es : List Expr} {fs : ADen} {pos p : Pos}
end
end ML

namespace ML
open PySem PySem.Spec PyProof.Rows L2
/-! ### a text taken or not -/
def gMulS : Op2
  | .str x, .int k, S => if k = 0 then some (.str Str.empty, S) else if k = 1 then some (.str x, S) else none
  | _, _, _ => none
def rMulS : R2 := fun x y H Q => ∃ z k, x = .str z ∧ y = .int k ∧ ((k = 0 ∧ Q (.str Str.empty) H) ∨ (k = 1 ∧ Q (.str z) H))
section
variable {X : Cx} {a b : Expr} {fa fb : Den} {pos : Pos}
theorem op_mulS : OpR X (binaryOp .Mult) rMulS := by
  intro pins s σ H x y v u Q I rx ry h
  obtain ⟨z, k, rfl, rfl, h⟩ := h
  obtain ⟨t, rfl⟩ := rx
  obtain ⟨t', rfl⟩ := ry
  rcases h with ⟨rfl, q⟩ | ⟨rfl, q⟩
  · refine PySem.P.mul_str (by decide) (fun h => absurd (by decide) h) (fun h => absurd (by decide) h) ?_
    rw [if_pos (by decide)]
    exact ⟨by decide, .str Str.empty, H, I.tok _, ⟨_, rfl⟩, q⟩
  · refine PySem.P.mul_str (by decide) (fun _ h => absurd h (by simp)) (fun _ h => absurd h (by simp)) ?_
    rw [if_neg (by decide), if_pos (by simp)]
    exact ⟨.str z, H, I, ⟨_, rfl⟩, q⟩
theorem imp_mulS {G : Gx} : Imp2 G gMulS rMulS := by
  rintro x y H Q ⟨ρ, S, d1, d2, d, S', hs, r1, r2, h, q⟩
  unfold gMulS at h
  split at h
  · split at h
    · rename_i hz
      cases h
      exact ⟨_, _, rp_str r1, rp_int r2, .inl ⟨hz, q ρ _ H (Step.refl _ _) hs (rp_of_str _)⟩⟩
    · split at h
      · rename_i hz
        cases h
        exact ⟨_, _, rp_str r1, rp_int r2, .inr ⟨hz, q ρ _ H (Step.refl _ _) hs (rp_of_str _)⟩⟩
      · cases h
  · cases h
theorem me_mulS (ha : ME X a fa) (hb : ME X b fb) : ME X (.BinOp a .Mult b pos) (eOp gMulS fa fb) := me_op op_mulS imp_mulS ha hb
/-! ### the least of a list -/
section
variable {X : Cx} {e : Expr} {es : List Expr} {fs : ADen} {pos p : Pos}
end
end
end ML

namespace ML
open PySem PySem.Spec PyProof.Rows L2
/-! ### one of two ways; lists of lists against a new list -/
/-- f where it tells anything, else g -/
def eEls (f g : Den) : Den := fun env S => match f env S with
  | some r => some r
  | none => g env S
section
variable {X : Cx} {a b e : Expr} {fa fb : Den} {fd : Den} {fg : ADen} {pos : Pos}
theorem me_els (ha : ME X e fa) (hb : ME X e fb) : ME X e (eEls fa fb) := by
  refine ⟨⟨fun pins s σ H Q I h => ?_⟩⟩
  obtain ⟨ρ, env, S, d, S', he, hs, hf, q⟩ := h
  unfold eEls at hf
  split at hf
  · rename_i r hr
    exact ha.pe.run pins s σ H Q I ⟨ρ, env, S, d, S', he, hs, hr.trans hf, q⟩
  · exact hb.pe.run pins s σ H Q I ⟨ρ, env, S, d, S', he, hs, hf, q⟩
end
end ML

namespace ML
open PySem PySem.Spec PyProof.Rows L2
/-! ### texts by their order; where a text stands in another; list against list -/
section
variable {X : Cx} {a b e o : Expr} {fa fb fo fe : Den} {fd fg : Den} {pos apos : Pos}
end
section
variable {X : Cx} {a b : Expr} {fd fg : Den} {pos : Pos}
end
end ML

namespace ML
open PySem PySem.Spec PyProof.Rows L2 CwR
/-! ### text.replace(written, written): a token must be out ahead of it (a test by a written text gives one) -/
structure PE1 (X : Cx) (e : Expr) (t : TE) : Prop where
  run : ∀ (pins : List (Addr × Obj)) (s : Shared) (σ : L2.St) (H : Hp) (Q : VK), Inv X pins σ H s → t σ H Q → wpAny (model X.prog X.w) X.A (eval e X.env) (fun v s' => 1 ≤ s'.toks ∧ EP X pins σ Q v s') X.xe s
structure MT1 (X : Cx) (e : Expr) (f : TDen) : Prop where
  run : ∀ (pins : List (Addr × Obj)) (s : Shared) (σ : L2.St) (H : Hp) (Q : Bool → Hp → Prop), Inv X pins σ H s → tT (gx X) f σ H Q → wpAny (model X.prog X.w) X.A (isTrue e X.env (eval e X.env)) (fun b s' => 1 ≤ s'.toks ∧ TP X pins σ Q b s') X.xe s
structure MET (X : Cx) (e : Expr) (f : Den) : Prop where
  pet : PET X e (tE (gx X) f)
structure MST (X : Cx) (st : Stmt) (f : SDen) : Prop where
  pst : PST X st (tS (gx X) f)
structure MSsT (X : Cx) (st : List Stmt) (f : SDen) : Prop where
  psst : PSsT X st (tS (gx X) f)
def eRepl (y z : Str) (f : Den) : Den := fun env S => (f env S).bind fun p => match p.1 with
  | .str x => if x.length + (x.length + 1) * z.length ≤ 16777216 then some (.str (Txt.replace x y z), p.2) else none
  | _ => none
section
variable {X : Cx} {a b e o c : Expr} {fa fb fo fe : Den} {t : TDen} {f g : SDen} {st : Stmt} {rest : List Stmt} {ba bb : List Stmt} {pos apos c0 c1 p : Pos} {j k : Nat} {y z x : Str}
theorem pe1_str : PE1 X (.Constant (.str x) j pos) (tC (.str x)) := ⟨fun _ s _ H _ I h => Calls.Constant_str ⟨by show 1 ≤ s.toks + 1; omega, .str x, H, I.tok _, ⟨_, rfl⟩, h⟩⟩
theorem pt1_cmpR {op : CmpOp} {r : R2} {ta tb : TE} {pins : List (Addr × Obj)} {s : Shared} {σ : L2.St} {H : Hp} {Q : Bool → Hp → Prop} (ho : OpR X (compareOp op) r) (ha : PE X a ta) (hb : PE1 X b tb) (hm : behindInMarks op b = false)
    (I : Inv X pins σ H s) (h : tTest (tOp r ta tb) σ H Q) : wpAny (model X.prog X.w) X.A (isTrue (.Compare a [op] [b] pos) X.env (eval (.Compare a [op] [b] pos) X.env)) (fun d s' => 1 ≤ s'.toks ∧ TP X pins σ Q d s') X.xe s := by
  refine wpAny_isTrue_Compare1 (thn (ha.run pins s σ H _ I h) fun v s1 ⟨x, H1, I1, r1, q1⟩ => thn (hb.run pins s1 σ H1 _ I1 q1) fun u s2 ⟨hk, y, H2, I2, r2, q2⟩ =>
    wpAny_mono (PySem.wpAny_toks (ho pins s2 σ H2 x y v u _ I2 r1 r2 q2)) (fun c s3 ⟨hk2, z, H3, I3, r3, k, e, q3⟩ => ?_) fun _ _ z => z.2) hm
  subst e
  cases r3
  exact wpAny_truthy_bool ⟨Nat.le_trans hk hk2, H3, I3, q3⟩
theorem mt1_cmp {op : CmpOp} {g : Op2} {r : R2} (ho : OpR X (compareOp op) r) (hi : Imp2 (gx X) g r) (ha : ME X a fa) (hm : behindInMarks op (.Constant (.str x) j p) = false := by first | exact nomark _ | rfl) :
    MT1 X (.Compare a [op] [.Constant (.str x) j p] pos) (asB (eOp g fa (eC (.str x)))) := by
  refine ⟨fun pins s σ H Q I h => ?_⟩
  have hb : PE1 X (.Constant (.str x) j p) (tE (gx X) (eC (.str x))) := ⟨fun pins s σ H Q I h => by
    obtain ⟨ρ, env, S, d, S', he, hs, hf, q⟩ := h
    cases hf
    exact pe1_str.run pins s σ H Q I (q ρ _ H (Step.refl _ _) hs (by simp [Rp]))⟩
  refine pt1_cmpR (r := r) ho ha.pe hb hm I ?_
  obtain ⟨ρ, env, S, k, S', he, hs, hf, q⟩ := h
  refine bin_imp hi ⟨ρ, env, S, .bl k, S', he, hs, asB_some hf, fun ρ' v H' st sr rr => ⟨k, rp_bl rr, q ρ' H' st sr⟩⟩
theorem MSsT.of (h : MSs X rest f) : MSsT X rest f := ⟨PSsT.of h.pss⟩
theorem MST.of (h : MS X st f) : MST X st f := ⟨PST.of h.ps⟩
theorem msst_cons (h1 : MST X st f) (h2 : MSsT X rest g) : MSsT X (st :: rest) (sCons f g) := by
  refine ⟨fun pins s σ H De h0 I h => psst_cons h1.pst h2.psst pins s σ H De h0 I ?_⟩
  obtain ⟨ρ, env, S, fl, env', S', he, hs, hf, q⟩ := h
  obtain ⟨x, e1, S1, h1, h2⟩ := bind3 hf
  refine tS.bind he hs h1 fun ρ1 σ1 H1 st1 he1 sr1 => ?_
  cases x with
  | nx => exact tS.bind he1 sr1 h2 fun ρ2 σ2 H2 st2 he2 sr2 => q ρ2 σ2 H2 (st1.trans st2) he2 sr2
  | bk => cases h2; exact q ρ1 σ1 H1 st1 he1 sr1
  | ct => cases h2; exact q ρ1 σ1 H1 st1 he1 sr1
  | rt d => cases h2; exact q ρ1 σ1 H1 st1 he1 sr1
theorem msst_nil : MSsT X [] sNil := MSsT.of mss_nil
theorem mst_if (hc : MT X c t) (ha : MSsT X ba f) (hb : MSsT X bb g) : MST X (.If c ba bb pos) (sIf t f g) := by
  refine ⟨fun pins s σ H De h0 I h => pst_if hc.pt ha.psst hb.psst pins s σ H De h0 I ?_⟩
  obtain ⟨ρ, env, S, fl, env', S', he, hs, hf, q⟩ := h
  obtain ⟨x, S1, h1, h2⟩ := bind2 hf
  refine tT.bind he hs h1 fun ρ1 H1 st1 he1 sr1 => ?_
  cases x with
  | true => exact tS.bind he1 sr1 h2 fun ρ2 σ2 H2 st2 he2 sr2 => q ρ2 σ2 H2 (st1.trans st2) he2 sr2
  | false => exact tS.bind he1 sr1 h2 fun ρ2 σ2 H2 st2 he2 sr2 => q ρ2 σ2 H2 (st1.trans st2) he2 sr2
/-- a test behind which a token is out: nothing is asked ahead of it -/
theorem ms_if1 (hc : MT1 X c t) (ha : MSsT X ba f) (hb : MSsT X bb g) : MS X (.If c ba bb pos) (sIf t f g) := by
  refine ⟨⟨fun pins s σ H De I h => ?_⟩⟩
  have h' : tT (gx X) t σ H fun d H1 => cond d (tS (gx X) f De σ H1) (tS (gx X) g De σ H1) := by
    obtain ⟨ρ, env, S, fl, env', S', he, hs, hf, q⟩ := h
    obtain ⟨x, S1, h1, h2⟩ := bind2 hf
    refine tT.bind he hs h1 fun ρ1 H1 st1 he1 sr1 => ?_
    cases x with
    | true => exact tS.bind he1 sr1 h2 fun ρ2 σ2 H2 st2 he2 sr2 => q ρ2 σ2 H2 (st1.trans st2) he2 sr2
    | false => exact tS.bind he1 sr1 h2 fun ρ2 σ2 H2 st2 he2 sr2 => q ρ2 σ2 H2 (st1.trans st2) he2 sr2
  refine wpAny_If (wpAny_mono (hc.run pins s σ H _ I h') (fun d s1 q => ?_) fun _ _ z => z)
  obtain ⟨hk, H1, I1, q1⟩ := q
  cases d with
  | true => exact ha.psst pins s1 σ H1 De hk I1 q1
  | false => exact hb.psst pins s1 σ H1 De hk I1 q1
theorem mst_set (i : Nat) {pos' : Pos} (hN : X.N.Nodup) (he : MET X e fe) (hi : X.N[i]? = some x := by rfl) (hx : Loc X.env.scope x := by first | exact Or.inl rfl | exact Or.inr rfl) (hs : swapsWith e (some (.Name x pos')) pos.line X.env = pure false := by rfl) (hf : X.fn x = true ∨ X.env.scope.names.lookup x = some .local := by first | exact .inl rfl | exact .inr rfl) :
    MST X (.Assign [.Name x pos'] e pos) (sAsg fe (gName i)) := by
  refine ⟨fun pins s σ H De h0 I h => ?_⟩
  have h' : tAsg (tE (gx X) fe) (L2.gName i) De σ H := by
    obtain ⟨ρ, env, S, fl, env', S', he, hs, hf, q⟩ := h
    obtain ⟨y, S1, h1, h2⟩ := bind2 hf
    obtain ⟨env2, S2, h3, h4⟩ := bind2 h2
    cases h4
    cases h3
    exact tE.bind he hs h1 fun ρ1 v1 H1 st1 he1 sr1 r1 => q ρ1 _ H1 st1 (he1.set r1 i) sr1
  refine wpAny_Assign_Name (thn (he.pet pins s σ H _ h0 I h') fun v s1 ⟨y, H1, I1, r1, q1⟩ => ?_) hs
  exact store_ok I1 hN hi hx r1 (fun s2 I2 => ⟨_, H1, I2, q1⟩) hf
theorem met_repl (ho : ME X o fo) (hyz : (y == z) = false := by decide)
    (hst : starEach [.Constant (.str y) j c0, .Constant (.str z) k c1] X.env = [(false, eval (.Constant (.str y) j c0) X.env), (false, eval (.Constant (.str z) k c1) X.env)] := by rfl)
    (hbase : attributeBase o "replace" X.env (eval o X.env) = eval o X.env := by rfl) (hline : (apos.endLine == pos.line) = true := by rfl) :
    MET X (.Call (.Attribute o "replace" apos) [.Constant (.str y) j c0, .Constant (.str z) k c1] [] pos) (eRepl y z fo) := by
  refine ⟨fun pins s σ H Q h0 I h => pet_replC ho.pe hyz hst hbase hline pins s σ H Q h0 I ?_⟩
  obtain ⟨ρ, env, S, d, S', he, hs, hf, q⟩ := h
  obtain ⟨w, S1, h1, h2⟩ := bind2 hf
  refine tE.bind he hs h1 fun ρ1 v1 H1 st1 he1 sr1 r1 => ?_
  cases w with
  | str x =>
    simp only at h2
    split at h2
    · rename_i hb
      cases h2
      rw [rp_str r1]
      exact ⟨x, rfl, hb, q ρ1 _ H1 st1 sr1 (by simp [Rp])⟩
    · cases h2
  | _ => cases h2
end
end ML

namespace Cl
open PySem PySem.Spec PyProof.Rows L2 ML
def top (i : Nat) : Stmt := PySem.Challenge.pw_scenetongue_k15_too_long.main.body.getD i (.Pass ⟨0, 0, 0, 0⟩)
abbrev s__wall : Stmt := top 0
abbrev s_common_part : Stmt := top 12
theorem sc_common_part : FnScope ["one", "other"] ["one", "other"] (defScope s_common_part) := ⟨rfl, rfl, rfl, by decide +kernel, rfl, by decide +kernel, by decide +kernel⟩
noncomputable abbrev d_common_part : Fn := p_common_part
abbrev s_frac : Stmt := top 13
theorem sc_frac : FnScope ["above", "below", "part"] ["above", "below"] (defScope s_frac) := ⟨rfl, rfl, rfl, by decide +kernel, rfl, by decide +kernel, by decide +kernel⟩
noncomputable abbrev d_frac : Fn := p_frac
abbrev s_plus : Stmt := top 14
theorem sc_plus : FnScope ["one", "other"] ["one", "other"] (defScope s_plus) := ⟨rfl, rfl, rfl, by decide +kernel, rfl, by decide +kernel, by decide +kernel⟩
noncomputable abbrev d_plus : Fn := p_plus
abbrev s_minus : Stmt := top 15
theorem sc_minus : FnScope ["one", "other"] ["one", "other"] (defScope s_minus) := ⟨rfl, rfl, rfl, by decide +kernel, rfl, by decide +kernel, by decide +kernel⟩
noncomputable abbrev d_minus : Fn := p_minus
abbrev s_times : Stmt := top 16
theorem sc_times : FnScope ["one", "other"] ["one", "other"] (defScope s_times) := ⟨rfl, rfl, rfl, by decide +kernel, rfl, by decide +kernel, by decide +kernel⟩
noncomputable abbrev d_times : Fn := p_times
abbrev s_sign : Stmt := top 17
theorem sc_sign : FnScope ["one"] ["one"] (defScope s_sign) := ⟨rfl, rfl, rfl, by decide +kernel, rfl, by decide +kernel, by decide +kernel⟩
noncomputable abbrev d_sign : Fn := p_sign
abbrev s_dot : Stmt := top 18
theorem sc_dot : FnScope ["one", "other", "a", "b", "c", "x", "y", "z"] ["one", "other"] (defScope s_dot) := ⟨rfl, rfl, rfl, by decide +kernel, rfl, by decide +kernel, by decide +kernel⟩
noncomputable abbrev d_dot : Fn := p_dot
abbrev s_is_name : Stmt := top 30
theorem sc_is_name : FnScope ["text", "sign"] ["text"] (defScope s_is_name) := ⟨rfl, rfl, rfl, by decide +kernel, rfl, by decide +kernel, by decide +kernel⟩
noncomputable abbrev d_is_name : Fn := p_is_name
abbrev s_whole_in : Stmt := top 31
theorem sc_whole_in : FnScope ["text", "figures", "sign"] ["text"] (defScope s_whole_in) := ⟨rfl, rfl, rfl, by decide +kernel, rfl, by decide +kernel, by decide +kernel⟩
noncomputable abbrev d_whole_in : Fn := p_whole_in
abbrev s_common : Stmt := top 32
theorem sc_common : FnScope ["one", "other"] ["one", "other"] (defScope s_common) := ⟨rfl, rfl, rfl, by decide +kernel, rfl, by decide +kernel, by decide +kernel⟩
noncomputable abbrev d_common : Fn := p_common
abbrev s_number_in : Stmt := top 33
theorem sc_number_in : FnScope ["text", "above", "stroke", "below", "first", "second"] ["text"] (defScope s_number_in) := ⟨rfl, rfl, rfl, by decide +kernel, rfl, by decide +kernel, by decide +kernel⟩
noncomputable abbrev d_number_in : Fn := p_number_in
abbrev s_words_of : Stmt := top 34
theorem sc_words_of : FnScope ["row", "words", "word"] ["row"] (defScope s_words_of) := ⟨rfl, rfl, rfl, by decide +kernel, rfl, by decide +kernel, by decide +kernel⟩
noncomputable abbrev d_words_of : Fn := p_words_of
abbrev s_is_short : Stmt := top 35
theorem sc_is_short : FnScope ["row", "sign"] ["row"] (defScope s_is_short) := ⟨rfl, rfl, rfl, by decide +kernel, rfl, by decide +kernel, by decide +kernel⟩
noncomputable abbrev d_is_short : Fn := p_is_short
abbrev s_is_shaped : Stmt := top 36
theorem sc_is_shaped : FnScope ["words"] ["words"] (defScope s_is_shaped) := ⟨rfl, rfl, rfl, by decide +kernel, rfl, by decide +kernel, by decide +kernel⟩
noncomputable abbrev d_is_shaped : Fn := p_is_shaped
abbrev s_names_in : Stmt := top 37
theorem sc_names_in : FnScope ["words", "at"] ["words"] (defScope s_names_in) := ⟨rfl, rfl, rfl, by decide +kernel, rfl, by decide +kernel, by decide +kernel⟩
noncomputable abbrev d_names_in : Fn := p_names_in
abbrev s_numbers_in : Stmt := top 38
theorem sc_numbers_in : FnScope ["words", "begin", "end"] ["words"] (defScope s_numbers_in) := ⟨rfl, rfl, rfl, by decide +kernel, rfl, by decide +kernel, by decide +kernel⟩
noncomputable abbrev d_numbers_in : Fn := p_numbers_in
abbrev s_is_cells : Stmt := top 39
theorem sc_is_cells : FnScope ["text", "most", "number"] ["text", "most"] (defScope s_is_cells) := ⟨rfl, rfl, rfl, by decide +kernel, rfl, by decide +kernel, by decide +kernel⟩
noncomputable abbrev d_is_cells : Fn := p_is_cells
abbrev s_between : Stmt := top 45
theorem sc_between : FnScope ["one", "other", "begin", "end"] ["one", "other"] (defScope s_between) := ⟨rfl, rfl, rfl, by decide +kernel, rfl, by decide +kernel, by decide +kernel⟩
noncomputable abbrev d_between : Fn := p_between
abbrev s_across : Stmt := top 46
theorem sc_across : FnScope ["one", "other", "j", "k"] ["one", "other"] (defScope s_across) := ⟨rfl, rfl, rfl, by decide +kernel, rfl, by decide +kernel, by decide +kernel⟩
noncomputable abbrev d_across : Fn := p_across
abbrev s_is_box : Stmt := top 47
theorem sc_is_box : FnScope ["numbers", "low", "high"] ["numbers"] (defScope s_is_box) := ⟨rfl, rfl, rfl, by decide +kernel, rfl, by decide +kernel, by decide +kernel⟩
noncomputable abbrev d_is_box : Fn := p_is_box_
abbrev s_is_ball : Stmt := top 48
theorem sc_is_ball : FnScope ["numbers"] ["numbers"] (defScope s_is_ball) := ⟨rfl, rfl, rfl, by decide +kernel, rfl, by decide +kernel, by decide +kernel⟩
noncomputable abbrev d_is_ball : Fn := p_is_ball
abbrev s_is_half : Stmt := top 49
theorem sc_is_half : FnScope ["numbers"] ["numbers"] (defScope s_is_half) := ⟨rfl, rfl, rfl, by decide +kernel, rfl, by decide +kernel, by decide +kernel⟩
noncomputable abbrev d_is_half : Fn := p_is_half
abbrev s_is_turn : Stmt := top 50
theorem sc_is_turn : FnScope ["numbers"] ["numbers"] (defScope s_is_turn) := ⟨rfl, rfl, rfl, by decide +kernel, rfl, by decide +kernel, by decide +kernel⟩
noncomputable abbrev d_is_turn : Fn := p_is_turn
abbrev s_is_window : Stmt := top 51
theorem sc_is_window : FnScope ["numbers", "to_corner"] ["numbers"] (defScope s_is_window) := ⟨rfl, rfl, rfl, by decide +kernel, rfl, by decide +kernel, by decide +kernel⟩
noncomputable abbrev d_is_window : Fn := p_is_window
abbrev s_is_any : Stmt := top 52
theorem sc_is_any : FnScope ["numbers"] ["numbers"] (defScope s_is_any) := ⟨rfl, rfl, rfl, by decide +kernel, rfl, by decide +kernel, by decide +kernel⟩
noncomputable abbrev d_is_any : Fn := p_is_any
abbrev s_form_of : Stmt := top 54
theorem sc_form_of : FnScope ["words", "numbers", "places", "word"] ["words", "numbers", "places"] (defScope s_form_of) := ⟨rfl, rfl, rfl, by decide +kernel, rfl, by decide +kernel, by decide +kernel⟩
noncomputable abbrev d_form_of : Fn := p_form_of
abbrev s_KDraft___init__ : Stmt := ML.memS (top 55) 0
theorem sc_KDraft___init__ : FnScope ["self"] ["self"] (defScope s_KDraft___init__) := ⟨rfl, rfl, rfl, by decide +kernel, rfl, by decide +kernel, by decide +kernel⟩
noncomputable abbrev d_KDraft___init__ : Fn := p_KDraft___init__
abbrev s_KDraft_number_of : Stmt := ML.memS (top 55) 6
theorem sc_KDraft_number_of : FnScope ["self", "name", "own", "form"] ["self", "name"] (defScope s_KDraft_number_of) := ⟨rfl, rfl, rfl, by decide +kernel, rfl, by decide +kernel, by decide +kernel⟩
noncomputable abbrev d_KDraft_number_of : Fn := p_KDraft_number_of
abbrev s_KDraft_is_many : Stmt := ML.memS (top 55) 5
theorem sc_KDraft_is_many : FnScope ["self", "words"] ["self", "words"] (defScope s_KDraft_is_many) := ⟨rfl, rfl, rfl, by decide +kernel, rfl, by decide +kernel, by decide +kernel⟩
noncomputable abbrev d_KDraft_is_many : Fn := p_KDraft_is_many
abbrev s_KDraft_is_twice : Stmt := ML.memS (top 55) 4
theorem sc_KDraft_is_twice : FnScope ["self", "words", "word", "name", "rest", "own", "point", "parts"] ["self", "words"] (defScope s_KDraft_is_twice) := ⟨rfl, rfl, rfl, by decide +kernel, rfl, by decide +kernel, by decide +kernel⟩
noncomputable abbrev d_KDraft_is_twice : Fn := p_KDraft_is_twice
abbrev s_KDraft_spoken : Stmt := ML.memS (top 55) 3
theorem sc_KDraft_spoken : FnScope ["self", "words"] ["self", "words"] (defScope s_KDraft_spoken) := ⟨rfl, rfl, rfl, by decide +kernel, rfl, by decide +kernel, by decide +kernel⟩
noncomputable abbrev d_KDraft_spoken : Fn := p_KDraft_spoken
abbrev s_KDraft_fault : Stmt := ML.memS (top 55) 2
theorem sc_KDraft_fault : FnScope ["self", "words", "fits", "name", "text"] ["self", "words"] (defScope s_KDraft_fault) := ⟨rfl, rfl, rfl, by decide +kernel, rfl, by decide +kernel, by decide +kernel⟩
noncomputable abbrev d_KDraft_fault : Fn := p_KDraft_fault
abbrev s_KDraft_make : Stmt := ML.memS (top 55) 7
theorem sc_KDraft_make : FnScope ["self", "number", "words", "numbers", "move", "is_mirror", "ways", "places", "text", "at", "name"] ["self", "number", "words"] (defScope s_KDraft_make) := ⟨rfl, rfl, rfl, by decide +kernel, rfl, by decide +kernel, by decide +kernel⟩
noncomputable abbrev d_KDraft_make : Fn := p_KDraft_make
abbrev s_KDraft_take : Stmt := ML.memS (top 55) 1
theorem sc_KDraft_take : FnScope ["self", "number", "row", "words", "why"] ["self", "number", "row"] (defScope s_KDraft_take) := ⟨rfl, rfl, rfl, by decide +kernel, rfl, by decide +kernel, by decide +kernel⟩
noncomputable abbrev d_KDraft_take : Fn := p_KDraft_take
abbrev s_KDraft_told : Stmt := ML.memS (top 55) 8
abbrev s_drafted : Stmt := top 56
theorem sc_drafted : FnScope ["text", "draft", "number", "row"] ["text"] (defScope s_drafted) := ⟨rfl, rfl, rfl, by decide +kernel, rfl, by decide +kernel, by decide +kernel⟩
noncomputable abbrev d_drafted : Fn := p_drafted
abbrev s_faults : Stmt := top 57
theorem sc_faults : FnScope ["text"] ["text"] (defScope s_faults) := ⟨rfl, rfl, rfl, by decide +kernel, rfl, by decide +kernel, by decide +kernel⟩
noncomputable abbrev d_faults : Fn := p_faults
abbrev s__law_deck : Stmt := top 59
theorem sc__law_deck : FnScope ["_law_script", "_law_cells", "_law_one"] ["_law_script"] (defScope s__law_deck) := ⟨rfl, rfl, rfl, by decide +kernel, rfl, by decide +kernel, by decide +kernel⟩
noncomputable abbrev d__law_deck : Fn := s_deck
abbrev s__law_next : Stmt := top 60
theorem sc__law_next : FnScope ["_law_deck_here", "_law_many", "_law_cells", "_law_count", "_law_rests", "_law_place", "_law_share", "_law_mixed"] ["_law_deck_here", "_law_many"] (defScope s__law_next) := ⟨rfl, rfl, rfl, by decide +kernel, rfl, by decide +kernel, by decide +kernel⟩
noncomputable abbrev d__law_next : Fn := s_next
abbrev s__law_whole : Stmt := top 61
abbrev s__law_line : Stmt := top 62
theorem sc__law_line : FnScope ["_law_deck_here", "_law_way", "_law_many"] ["_law_deck_here"] (defScope s__law_line) := ⟨rfl, rfl, rfl, by decide +kernel, rfl, by decide +kernel, by decide +kernel⟩
noncomputable def d__law_line : Fn := mkFn 1 3 (sCons (sAsg (eCall s_next (aCons (eVar 0) (aCons (eC (.int 12)) aNil))) (ML.gName 1)) (sCons (sAsg (eOp gAdd (eC (.int 199)) (eCall s_next (aCons (eVar 0) (aCons (eC (.int 3)) aNil)))) (ML.gName 2)) (sCons (sIf (asB (eOp cEq (eVar 1) (eC (.int 0)))) (sCons (sRet (eTup (aCons (eEls (eOp gMulS (eC (.str " ")) (eVar 2)) (eOp gMulT (eC (.str " ")) (eVar 2))) (aCons (eOp cGt (eVar 2) (eC (.int 200))) aNil)))) sNil) sNil) (sCons (sIf (asB (eOp cEq (eVar 1) (eC (.int 1)))) (sCons (sRet (eTup (aCons (eOp gAdd (eC (.str "# ")) (eEls (eOp gMulS (eC (.str "x")) (eOp gSub (eVar 2) (eC (.int 2)))) (eOp gMulT (eC (.str "x")) (eOp gSub (eVar 2) (eC (.int 2)))))) (aCons (eOp cGt (eVar 2) (eC (.int 200))) aNil)))) sNil) sNil) (sCons (sIf (asB (eOp cEq (eVar 1) (eC (.int 2)))) (sCons (sRet (eTup (aCons (eOp gAdd (eC (.str "lamp a 0 0 0")) (eEls (eOp gMulS (eC (.str " ")) (eOp gSub (eVar 2) (eC (.int 12)))) (eOp gMulT (eC (.str " ")) (eOp gSub (eVar 2) (eC (.int 12)))))) (aCons (eOp cGt (eVar 2) (eC (.int 200))) aNil)))) sNil) sNil) (sCons (sIf (asB (eOp cEq (eVar 1) (eC (.int 3)))) (sCons (sRet (eTup (aCons (eC (.str "#	")) (aCons (eC (.bl true)) aNil)))) sNil) sNil) (sCons (sIf (asB (eOp cEq (eVar 1) (eC (.int 4)))) (sCons (sRet (eTup (aCons (eOp gAdd (eC (.str "half a")) (eC (.str "	"))) (aCons (eC (.bl true)) aNil)))) sNil) sNil) (sCons (sRet (eTup (aCons (eUIx (uLst (aCons (eC (.str "")) (aCons (eC (.str "#")) (aCons (eC (.str "# box")) (aCons (eC (.str "  ")) (aCons (eC (.str "# ~")) aNil)))))) (eCall s_next (aCons (eVar 0) (aCons (eC (.int 5)) aNil)))) (aCons (eC (.bl false)) aNil)))) sNil))))))))
abbrev s_law : Stmt := top 63
theorem sc_law : FnScope ["_law_script", "_law_deck_here", "_law_far", "_law_things", "_law_lines", "_law_due", "_law_lamps", "_law_at", "_law_line_here", "_law_is_long"] ["_law_script"] (defScope s_law) := ⟨rfl, rfl, rfl, by decide +kernel, rfl, by decide +kernel, by decide +kernel⟩
noncomputable def d_law : Fn := mkFn 1 10 (sCons (sAsg (eCall s_deck (aCons (eVar 0) aNil)) (ML.gName 1)) (sCons (sAsg (eOp gAdd (eOp gPow (eC (.int 10)) (eC (.int 21))) (eCall s_next (aCons (eVar 1) (aCons (eOp gPow (eC (.int 10)) (eC (.int 9))) aNil)))) (ML.gName 2)) (sCons (sAsg (eOwn (uLst (aCons (eC .non) (aCons (eC (.bl true)) (aCons (eC (.int 0)) (aCons (eVar 2) (aCons (eTup aNil) (aCons (eTup (aCons (eC (.str "box")) aNil)) (aCons (eOwn (uLst aNil)) (aCons (eOwn (uLst (aCons (eC (.str "# x")) aNil))) (aCons eDk0 (aCons (eDk1 (eC (.str "a")) (eC (.str "b"))) (aCons (eTup (aCons (eC (.str "")) aNil)) (aCons (eUn gNeg (eC (.int 1))) aNil)))))))))))))) (ML.gName 3)) (sCons (sIf (ML.tOr (asB (eOp cNe (eCall p_faults (aCons (eOp gIx (eVar 3) (eCall s_next (aCons (eVar 1) (aCons (eC (.int 12)) aNil)))) aNil)) (eTup (aCons (eTup (aCons (eC (.int 0)) (aCons (eC (.str "long")) aNil))) aNil)))) (asB (eOp cNe (eCall p_faults (aCons (eC (.str "")) aNil)) (eTup aNil)))) (sCons (sRet (eC (.bl false))) sNil) sNil) (sCons (sAsg (eOwn (uLst aNil)) (ML.gName 4)) (sCons (sAsg (eOwn (uLst aNil)) (ML.gName 5)) (sCons (sAsg (eC (.int 0)) (ML.gName 6)) (sCons (sFor (iRange1 (eOp gAdd (eC (.int 78)) (eCall s_next (aCons (eVar 1) (aCons (eC (.int 7)) aNil))))) (ML.gName 7) (sCons (sAsg (eCall d__law_line (aCons (eVar 1) aNil)) (ML.gTup 2 (ML.gCons (ML.gName 8) (ML.gCons (ML.gName 9) ML.gNil)))) (sCons (sIf (asB (eOp cEq (eSlS (eVar 8) oNone (oSome (eC (.int 4)))) (eC (.str "lamp")))) (sCons (sAsg (eOp gAdd (eVar 6) (eC (.int 1))) (ML.gName 6)) (sCons (sIf (asB (eOp cGt (eVar 6) (eC (.int 1)))) (sCons (sAsg (eRepl "lamp a 0 0 0" "# lamps 0 0 " (eVar 8)) (ML.gName 8)) sNil) sNil) sNil)) sNil) (sCons (sIf (ML.tOr (tTru (eVar 9)) (asB (eOp cGt (eVar 7) (eC (.int 79))))) (sCons (sExpr (eMt mAppend (eVar 5) (aCons (eTup (aCons (eVar 7) (aCons (eC (.str "long")) aNil))) aNil))) sNil) sNil) (sCons (sExpr (eMt mAppend (eVar 4) (aCons (eVar 8) aNil))) sNil))))) (sCons (sRet (eAnd (eOp cEq (eCall p_faults (aCons (eTm tmJoin (eC (.str "\n")) (eVar 4)) aNil)) (eCall bTuple (aCons (eVar 5) aNil))) (eOp cEq (eCall p_faults (aCons (eTm tmJoin (eC (.str "\n")) (eVar 4)) aNil)) (eCall bTuple (aCons (eVar 5) aNil))))) sNil)))))))))
def fn : List He.DefD := [⟨("_wall", none), "_wall", "_wall", defArgs s__wall, defBody s__wall, defScope s__wall, [], []⟩,
  ⟨("common_part", none), "common_part", "common_part", defArgs s_common_part, defBody s_common_part, defScope s_common_part, [], []⟩,
  ⟨("frac", none), "frac", "frac", defArgs s_frac, defBody s_frac, defScope s_frac, [], []⟩,
  ⟨("plus", none), "plus", "plus", defArgs s_plus, defBody s_plus, defScope s_plus, [], []⟩,
  ⟨("minus", none), "minus", "minus", defArgs s_minus, defBody s_minus, defScope s_minus, [], []⟩,
  ⟨("times", none), "times", "times", defArgs s_times, defBody s_times, defScope s_times, [], []⟩,
  ⟨("sign", none), "sign", "sign", defArgs s_sign, defBody s_sign, defScope s_sign, [], []⟩,
  ⟨("dot", none), "dot", "dot", defArgs s_dot, defBody s_dot, defScope s_dot, [], []⟩,
  ⟨("is_name", none), "is_name", "is_name", defArgs s_is_name, defBody s_is_name, defScope s_is_name, [], []⟩,
  ⟨("whole_in", none), "whole_in", "whole_in", defArgs s_whole_in, defBody s_whole_in, defScope s_whole_in, [], []⟩,
  ⟨("common", none), "common", "common", defArgs s_common, defBody s_common, defScope s_common, [], []⟩,
  ⟨("number_in", none), "number_in", "number_in", defArgs s_number_in, defBody s_number_in, defScope s_number_in, [], []⟩,
  ⟨("words_of", none), "words_of", "words_of", defArgs s_words_of, defBody s_words_of, defScope s_words_of, [], []⟩,
  ⟨("is_short", none), "is_short", "is_short", defArgs s_is_short, defBody s_is_short, defScope s_is_short, [], []⟩,
  ⟨("is_shaped", none), "is_shaped", "is_shaped", defArgs s_is_shaped, defBody s_is_shaped, defScope s_is_shaped, [], []⟩,
  ⟨("names_in", none), "names_in", "names_in", defArgs s_names_in, defBody s_names_in, defScope s_names_in, [], []⟩,
  ⟨("numbers_in", none), "numbers_in", "numbers_in", defArgs s_numbers_in, defBody s_numbers_in, defScope s_numbers_in, [], []⟩,
  ⟨("is_cells", none), "is_cells", "is_cells", defArgs s_is_cells, defBody s_is_cells, defScope s_is_cells, [], []⟩,
  ⟨("between", none), "between", "between", defArgs s_between, defBody s_between, defScope s_between, [], []⟩,
  ⟨("across", none), "across", "across", defArgs s_across, defBody s_across, defScope s_across, [], []⟩,
  ⟨("is_box", none), "is_box", "is_box", defArgs s_is_box, defBody s_is_box, defScope s_is_box, [], []⟩,
  ⟨("is_ball", none), "is_ball", "is_ball", defArgs s_is_ball, defBody s_is_ball, defScope s_is_ball, [], []⟩,
  ⟨("is_half", none), "is_half", "is_half", defArgs s_is_half, defBody s_is_half, defScope s_is_half, [], []⟩,
  ⟨("is_turn", none), "is_turn", "is_turn", defArgs s_is_turn, defBody s_is_turn, defScope s_is_turn, [], []⟩,
  ⟨("is_window", none), "is_window", "is_window", defArgs s_is_window, defBody s_is_window, defScope s_is_window, [], []⟩,
  ⟨("is_any", none), "is_any", "is_any", defArgs s_is_any, defBody s_is_any, defScope s_is_any, [], []⟩,
  ⟨("form_of", none), "form_of", "form_of", defArgs s_form_of, defBody s_form_of, defScope s_form_of, [], []⟩,
  ⟨("Draft", some "__init__"), "__init__", "Draft.__init__", defArgs s_KDraft___init__, defBody s_KDraft___init__, defScope s_KDraft___init__, [], []⟩,
  ⟨("Draft", some "number_of"), "number_of", "Draft.number_of", defArgs s_KDraft_number_of, defBody s_KDraft_number_of, defScope s_KDraft_number_of, [], []⟩,
  ⟨("Draft", some "is_many"), "is_many", "Draft.is_many", defArgs s_KDraft_is_many, defBody s_KDraft_is_many, defScope s_KDraft_is_many, [], []⟩,
  ⟨("Draft", some "is_twice"), "is_twice", "Draft.is_twice", defArgs s_KDraft_is_twice, defBody s_KDraft_is_twice, defScope s_KDraft_is_twice, [], []⟩,
  ⟨("Draft", some "spoken"), "spoken", "Draft.spoken", defArgs s_KDraft_spoken, defBody s_KDraft_spoken, defScope s_KDraft_spoken, [], []⟩,
  ⟨("Draft", some "fault"), "fault", "Draft.fault", defArgs s_KDraft_fault, defBody s_KDraft_fault, defScope s_KDraft_fault, [], []⟩,
  ⟨("Draft", some "make"), "make", "Draft.make", defArgs s_KDraft_make, defBody s_KDraft_make, defScope s_KDraft_make, [], []⟩,
  ⟨("Draft", some "take"), "take", "Draft.take", defArgs s_KDraft_take, defBody s_KDraft_take, defScope s_KDraft_take, [], []⟩,
  ⟨("Draft", some "told"), "told", "Draft.told", defArgs s_KDraft_told, defBody s_KDraft_told, defScope s_KDraft_told, [], []⟩,
  ⟨("drafted", none), "drafted", "drafted", defArgs s_drafted, defBody s_drafted, defScope s_drafted, [], []⟩,
  ⟨("faults", none), "faults", "faults", defArgs s_faults, defBody s_faults, defScope s_faults, [], []⟩,
  ⟨("_law_deck", none), "_law_deck", "_law_deck", defArgs s__law_deck, defBody s__law_deck, defScope s__law_deck, [], []⟩,
  ⟨("_law_next", none), "_law_next", "_law_next", defArgs s__law_next, defBody s__law_next, defScope s__law_next, [], []⟩,
  ⟨("_law_whole", none), "_law_whole", "_law_whole", defArgs s__law_whole, defBody s__law_whole, defScope s__law_whole, [], []⟩,
  ⟨("_law_line", none), "_law_line", "_law_line", defArgs s__law_line, defBody s__law_line, defScope s__law_line, [], []⟩,
  ⟨("law", none), "law", "law", defArgs s_law, defBody s_law, defScope s_law, [], []⟩]
def fa : List He.Fa := [.glo "_wall", .glo "common_part", .glo "frac", .glo "plus", .glo "minus", .glo "times", .glo "sign", .glo "dot", .glo "is_name", .glo "whole_in", .glo "common", .glo "number_in", .glo "words_of", .glo "is_short", .glo "is_shaped", .glo "names_in", .glo "numbers_in", .glo "is_cells", .glo "between", .glo "across", .glo "is_box", .glo "is_ball", .glo "is_half", .glo "is_turn", .glo "is_window", .glo "is_any", .glo "form_of", .glo "drafted", .glo "faults", .glo "_law_deck", .glo "_law_next", .glo "_law_whole", .glo "_law_line", .glo "law", .free "abs", .free "int", .free "len", .free "all", .free "zip", .free "tuple", .free "sum", .free "enumerate", .free "str", .free "isinstance", .free "list", .free "bool", .free "range", .glo "Draft", .cls "Draft", .noat "Draft" "bodies", .noat "Draft" "leaves", .noat "Draft" "body_rows", .noat "Draft" "things", .noat "Draft" "thing_rows", .noat "Draft" "lamps", .noat "Draft" "looks", .noat "Draft" "wrongs", .meth "Draft" "number_of", .meth "Draft" "spoken", .meth "Draft" "is_twice", .meth "Draft" "is_many", .meth "Draft" "fault", .meth "Draft" "make", .mkr "Draft", .meth "Draft" "take"]
def cs : List (Str × D) := [("NAME", .int 8), ("LETTERS", .str "abcdefghijklmnopqrstuvwxyz"), ("FIGURES", .int 6), ("DIGITS", .str "0123456789"), ("NOTE", .str "#"), ("SIGNS", .int 200), ("MIRROR", .str "mirror"), ("MOVE", .str "move"), ("STILL", .tup [.tup [.int 0, .int 1], .tup [.int 0, .int 1], .tup [.int 0, .int 1]]), ("ONE", .tup [.int 1, .int 1]), ("NOUGHT", .tup [.int 0, .int 1]), ("THINGS", .int 8), ("LEAVES", .int 8), ("LAMPS", .int 3), ("LOOKS", .int 4), ("BODIES", .int 40), ("PAIRS", .tup [.str "join", .str "cut", .str "meet"]), ("PLACED", .tup [.str "slide", .str "turn"]), ("AXES", .tup [.str "x", .str "y", .str "z"]), ("CELLS", .int 12), ("LINES", .int 80)]
def ts : List TabD := []
def tq : List TabQ := [("COUNTS", [("box", .tup [.int 8]), ("ball", .tup [.int 6]), ("half", .tup [.int 6]), ("join", .tup [.int 4]), ("cut", .tup [.int 4]), ("meet", .tup [.int 4]), ("slide", .tup [.int 6]), ("turn", .tup [.int 6]), ("show", .tup [.int 3, .int 4, .int 7, .int 8]), ("lamp", .tup [.int 5]), ("look", .tup [.int 16])]), ("NAMES", [("join", .tup [.int 1, .int 2, .int 3]), ("cut", .tup [.int 1, .int 2, .int 3]), ("meet", .tup [.int 1, .int 2, .int 3]), ("slide", .tup [.int 1, .int 2]), ("turn", .tup [.int 1, .int 2]), ("show", .tup [.int 1, .int 2])]), ("NUMBERS", [("box", .tup [.int 2, .int 8]), ("ball", .tup [.int 2, .int 6]), ("half", .tup [.int 2, .int 6]), ("slide", .tup [.int 3, .int 6]), ("turn", .tup [.int 4, .int 6]), ("lamp", .tup [.int 2, .int 5]), ("look", .tup [.int 2, .int 14])]), ("FITS", [("box", .fn "is_box"), ("ball", .fn "is_ball"), ("half", .fn "is_half"), ("turn", .fn "is_turn"), ("look", .fn "is_window")])]
section
variable {P : Program} {w : World} {K : PySem.W.Frag} {mg : Str → Option Value} {base h : Heap} (X : K.In h) (G : h.Ns mainGlobals mg) (c : SaysQ fa fn cs ts tq w K)
include X G c
theorem q_COUNTS : HasQ K w mg "COUNTS" [("box", .tup [.int 8]), ("ball", .tup [.int 6]), ("half", .tup [.int 6]), ("join", .tup [.int 4]), ("cut", .tup [.int 4]), ("meet", .tup [.int 4]), ("slide", .tup [.int 6]), ("turn", .tup [.int 6]), ("show", .tup [.int 3, .int 4, .int 7, .int 8]), ("lamp", .tup [.int 5]), ("look", .tup [.int 16])] := c.tabQ X G 0 rfl
theorem q_NAMES : HasQ K w mg "NAMES" [("join", .tup [.int 1, .int 2, .int 3]), ("cut", .tup [.int 1, .int 2, .int 3]), ("meet", .tup [.int 1, .int 2, .int 3]), ("slide", .tup [.int 1, .int 2]), ("turn", .tup [.int 1, .int 2]), ("show", .tup [.int 1, .int 2])] := c.tabQ X G 1 rfl
theorem q_NUMBERS : HasQ K w mg "NUMBERS" [("box", .tup [.int 2, .int 8]), ("ball", .tup [.int 2, .int 6]), ("half", .tup [.int 2, .int 6]), ("slide", .tup [.int 3, .int 6]), ("turn", .tup [.int 4, .int 6]), ("lamp", .tup [.int 2, .int 5]), ("look", .tup [.int 2, .int 14])] := c.tabQ X G 2 rfl
theorem q_FITS : HasQ K w mg "FITS" [("box", .fn "is_box"), ("ball", .fn "is_ball"), ("half", .fn "is_half"), ("turn", .fn "is_turn"), ("look", .fn "is_window")] := c.tabQ X G 3 rfl
theorem m_abs : mg "abs" = none := He.free_ok X G (c.d.fact 34 (f := .free "abs") rfl)
theorem m_int : mg "int" = none := He.free_ok X G (c.d.fact 35 (f := .free "int") rfl)
theorem m_len : mg "len" = none := He.free_ok X G (c.d.fact 36 (f := .free "len") rfl)
theorem m_all : mg "all" = none := He.free_ok X G (c.d.fact 37 (f := .free "all") rfl)
theorem m_zip : mg "zip" = none := He.free_ok X G (c.d.fact 38 (f := .free "zip") rfl)
theorem m_tuple : mg "tuple" = none := He.free_ok X G (c.d.fact 39 (f := .free "tuple") rfl)
theorem m_sum : mg "sum" = none := He.free_ok X G (c.d.fact 40 (f := .free "sum") rfl)
theorem m_enumerate : mg "enumerate" = none := He.free_ok X G (c.d.fact 41 (f := .free "enumerate") rfl)
theorem m_str : mg "str" = none := He.free_ok X G (c.d.fact 42 (f := .free "str") rfl)
theorem m_isinstance : mg "isinstance" = none := He.free_ok X G (c.d.fact 43 (f := .free "isinstance") rfl)
theorem m_list : mg "list" = none := He.free_ok X G (c.d.fact 44 (f := .free "list") rfl)
theorem m_range : mg "range" = none := He.free_ok X G (c.d.fact 46 (f := .free "range") rfl)
theorem c_NAME : HasC K mg "NAME" (.int 8) := c.cst X G 0 rfl
theorem c_LETTERS : HasC K mg "LETTERS" (.str "abcdefghijklmnopqrstuvwxyz") := c.cst X G 1 rfl
theorem c_FIGURES : HasC K mg "FIGURES" (.int 6) := c.cst X G 2 rfl
theorem c_DIGITS : HasC K mg "DIGITS" (.str "0123456789") := c.cst X G 3 rfl
theorem c_NOTE : HasC K mg "NOTE" (.str "#") := c.cst X G 4 rfl
theorem c_SIGNS : HasC K mg "SIGNS" (.int 200) := c.cst X G 5 rfl
theorem c_MIRROR : HasC K mg "MIRROR" (.str "mirror") := c.cst X G 6 rfl
theorem c_MOVE : HasC K mg "MOVE" (.str "move") := c.cst X G 7 rfl
theorem c_STILL : HasC K mg "STILL" (.tup [.tup [.int 0, .int 1], .tup [.int 0, .int 1], .tup [.int 0, .int 1]]) := c.cst X G 8 rfl
theorem c_ONE : HasC K mg "ONE" (.tup [.int 1, .int 1]) := c.cst X G 9 rfl
theorem c_NOUGHT : HasC K mg "NOUGHT" (.tup [.int 0, .int 1]) := c.cst X G 10 rfl
theorem c_THINGS : HasC K mg "THINGS" (.int 8) := c.cst X G 11 rfl
theorem c_LEAVES : HasC K mg "LEAVES" (.int 8) := c.cst X G 12 rfl
theorem c_LAMPS : HasC K mg "LAMPS" (.int 3) := c.cst X G 13 rfl
theorem c_LOOKS : HasC K mg "LOOKS" (.int 4) := c.cst X G 14 rfl
theorem c_BODIES : HasC K mg "BODIES" (.int 40) := c.cst X G 15 rfl
theorem c_PAIRS : HasC K mg "PAIRS" (.tup [.str "join", .str "cut", .str "meet"]) := c.cst X G 16 rfl
theorem c_PLACED : HasC K mg "PLACED" (.tup [.str "slide", .str "turn"]) := c.cst X G 17 rfl
theorem c_AXES : HasC K mg "AXES" (.tup [.str "x", .str "y", .str "z"]) := c.cst X G 18 rfl
theorem c_CELLS : HasC K mg "CELLS" (.int 12) := c.cst X G 19 rfl
theorem c_LINES : HasC K mg "LINES" (.int 80) := c.cst X G 20 rfl
theorem kls_Draft : IsCls K mg "Draft" := ⟨_, He.glo_ok X G (c.d.fact 47 (f := .glo "Draft") rfl), He.cls_ok (c.d.fact 48 (f := .cls "Draft") rfl)⟩
theorem noa_Draft_bodies : NoAt K mg "Draft" "bodies" := ⟨_, He.glo_ok X G (c.d.fact 47 (f := .glo "Draft") rfl), He.noat_ok (c.d.fact 49 (f := .noat "Draft" "bodies") rfl)⟩
theorem noa_Draft_leaves : NoAt K mg "Draft" "leaves" := ⟨_, He.glo_ok X G (c.d.fact 47 (f := .glo "Draft") rfl), He.noat_ok (c.d.fact 50 (f := .noat "Draft" "leaves") rfl)⟩
theorem noa_Draft_body_rows : NoAt K mg "Draft" "body_rows" := ⟨_, He.glo_ok X G (c.d.fact 47 (f := .glo "Draft") rfl), He.noat_ok (c.d.fact 51 (f := .noat "Draft" "body_rows") rfl)⟩
theorem noa_Draft_things : NoAt K mg "Draft" "things" := ⟨_, He.glo_ok X G (c.d.fact 47 (f := .glo "Draft") rfl), He.noat_ok (c.d.fact 52 (f := .noat "Draft" "things") rfl)⟩
theorem noa_Draft_thing_rows : NoAt K mg "Draft" "thing_rows" := ⟨_, He.glo_ok X G (c.d.fact 47 (f := .glo "Draft") rfl), He.noat_ok (c.d.fact 53 (f := .noat "Draft" "thing_rows") rfl)⟩
theorem noa_Draft_lamps : NoAt K mg "Draft" "lamps" := ⟨_, He.glo_ok X G (c.d.fact 47 (f := .glo "Draft") rfl), He.noat_ok (c.d.fact 54 (f := .noat "Draft" "lamps") rfl)⟩
theorem noa_Draft_looks : NoAt K mg "Draft" "looks" := ⟨_, He.glo_ok X G (c.d.fact 47 (f := .glo "Draft") rfl), He.noat_ok (c.d.fact 55 (f := .noat "Draft" "looks") rfl)⟩
theorem noa_Draft_wrongs : NoAt K mg "Draft" "wrongs" := ⟨_, He.glo_ok X G (c.d.fact 47 (f := .glo "Draft") rfl), He.noat_ok (c.d.fact 56 (f := .noat "Draft" "wrongs") rfl)⟩
theorem ok_common_part : HasFn P w K mg base "common_part" 1 d_common_part := by
  obtain ⟨fd_1, F_1⟩ := c.d.def_ 1 (d := ⟨("common_part", none), "common_part", "common_part", defArgs s_common_part, defBody s_common_part, defScope s_common_part, [], []⟩) rfl
  refine ⟨_, fd_1, ["one", "other"], He.glo_ok X G (c.d.fact 1 (f := .glo "common_part") rfl), F_1.kp, F_1.bindsN (fun _ _ _ _ _ _ us hl => match us, hl with | [_, _], _ => rfl), fn_ok F_1 sc_common_part fun cdv A outer s H E hr => ?_⟩
  have nd := sc_common_part.nd
  exact (mss_cons (ms_par 0 1 rfl nd (ma_cons (mb_abs (m_abs X G c) (ma_cons (me_var 0) ma_nil)) (ma_cons (mb_abs (m_abs X G c) (ma_cons (me_var 1) ma_nil)) ma_nil))) (mss_cons (ms_while PassesOwn.never (mt_val (me_var 1)) (mss_cons (ms_par 0 1 rfl nd (ma_cons (me_var 1) (ma_cons (me_mod (me_var 0) (me_var 1)) ma_nil))) mss_nil)) (mss_cons (ms_ret (me_var 0)) mss_nil)))
theorem ok_frac : HasFn P w K mg base "frac" 2 d_frac := by
  obtain ⟨fd_2, F_2⟩ := c.d.def_ 2 (d := ⟨("frac", none), "frac", "frac", defArgs s_frac, defBody s_frac, defScope s_frac, [], []⟩) rfl
  refine ⟨_, fd_2, ["above", "below"], He.glo_ok X G (c.d.fact 2 (f := .glo "frac") rfl), F_2.kp, F_2.bindsN (fun _ _ _ _ _ _ us hl => match us, hl with | [_, _], _ => rfl), fn_ok F_2 sc_frac fun cdv A outer s H E hr => ?_⟩
  have nd := sc_frac.nd
  exact (mss_cons (ms_set 2 nd (me_callF (ok_common_part X G c) hr (ma_cons (me_var 0) (ma_cons (me_var 1) ma_nil)))) (mss_cons (ms_if (mt_lt (me_var 1) me_int) (mss_cons (ms_set 2 nd (me_neg (me_var 2))) mss_nil) mss_nil) (mss_cons (ms_ret (me_tup (ma_cons (me_fdiv (me_var 0) (me_var 2)) (ma_cons (me_fdiv (me_var 1) (me_var 2)) ma_nil)))) mss_nil)))
theorem ok_plus : HasFn P w K mg base "plus" 3 d_plus := by
  obtain ⟨fd_3, F_3⟩ := c.d.def_ 3 (d := ⟨("plus", none), "plus", "plus", defArgs s_plus, defBody s_plus, defScope s_plus, [], []⟩) rfl
  refine ⟨_, fd_3, ["one", "other"], He.glo_ok X G (c.d.fact 3 (f := .glo "plus") rfl), F_3.kp, F_3.bindsN (fun _ _ _ _ _ _ us hl => match us, hl with | [_, _], _ => rfl), fn_ok F_3 sc_plus fun cdv A outer s H E hr => ?_⟩
  have nd := sc_plus.nd
  exact (mss_cons (ms_ret (me_callF (ok_frac X G c) hr (ma_cons (me_add (me_mul (me_ix (me_var 0) me_int) (me_ix (me_var 1) me_int)) (me_mul (me_ix (me_var 1) me_int) (me_ix (me_var 0) me_int))) (ma_cons (me_mul (me_ix (me_var 0) me_int) (me_ix (me_var 1) me_int)) ma_nil)))) mss_nil)
theorem ok_minus : HasFn P w K mg base "minus" 3 d_minus := by
  obtain ⟨fd_4, F_4⟩ := c.d.def_ 4 (d := ⟨("minus", none), "minus", "minus", defArgs s_minus, defBody s_minus, defScope s_minus, [], []⟩) rfl
  refine ⟨_, fd_4, ["one", "other"], He.glo_ok X G (c.d.fact 4 (f := .glo "minus") rfl), F_4.kp, F_4.bindsN (fun _ _ _ _ _ _ us hl => match us, hl with | [_, _], _ => rfl), fn_ok F_4 sc_minus fun cdv A outer s H E hr => ?_⟩
  have nd := sc_minus.nd
  exact (mss_cons (ms_ret (me_callF (ok_frac X G c) hr (ma_cons (me_sub (me_mul (me_ix (me_var 0) me_int) (me_ix (me_var 1) me_int)) (me_mul (me_ix (me_var 1) me_int) (me_ix (me_var 0) me_int))) (ma_cons (me_mul (me_ix (me_var 0) me_int) (me_ix (me_var 1) me_int)) ma_nil)))) mss_nil)
theorem ok_times : HasFn P w K mg base "times" 3 d_times := by
  obtain ⟨fd_5, F_5⟩ := c.d.def_ 5 (d := ⟨("times", none), "times", "times", defArgs s_times, defBody s_times, defScope s_times, [], []⟩) rfl
  refine ⟨_, fd_5, ["one", "other"], He.glo_ok X G (c.d.fact 5 (f := .glo "times") rfl), F_5.kp, F_5.bindsN (fun _ _ _ _ _ _ us hl => match us, hl with | [_, _], _ => rfl), fn_ok F_5 sc_times fun cdv A outer s H E hr => ?_⟩
  have nd := sc_times.nd
  exact (mss_cons (ms_ret (me_callF (ok_frac X G c) hr (ma_cons (me_mul (me_ix (me_var 0) me_int) (me_ix (me_var 1) me_int)) (ma_cons (me_mul (me_ix (me_var 0) me_int) (me_ix (me_var 1) me_int)) ma_nil)))) mss_nil)
theorem ok_sign : HasFn P w K mg base "sign" 1 d_sign := by
  obtain ⟨fd_6, F_6⟩ := c.d.def_ 6 (d := ⟨("sign", none), "sign", "sign", defArgs s_sign, defBody s_sign, defScope s_sign, [], []⟩) rfl
  refine ⟨_, fd_6, ["one"], He.glo_ok X G (c.d.fact 6 (f := .glo "sign") rfl), F_6.kp, F_6.bindsN (fun _ _ _ _ _ _ us hl => match us, hl with | [_], _ => rfl), fn_ok F_6 sc_sign fun cdv A outer s H E hr => ?_⟩
  have nd := sc_sign.nd
  exact (mss_cons (ms_ret (me_sub (mb_int (m_int X G c) (ma_cons (me_gt (me_ix (me_var 0) me_int) me_int) ma_nil)) (mb_int (m_int X G c) (ma_cons (me_lt (me_ix (me_var 0) me_int) me_int) ma_nil)))) mss_nil)
theorem ok_dot : HasFn P w K mg base "dot" 4 d_dot := by
  obtain ⟨fd_7, F_7⟩ := c.d.def_ 7 (d := ⟨("dot", none), "dot", "dot", defArgs s_dot, defBody s_dot, defScope s_dot, [], []⟩) rfl
  refine ⟨_, fd_7, ["one", "other"], He.glo_ok X G (c.d.fact 7 (f := .glo "dot") rfl), F_7.kp, F_7.bindsN (fun _ _ _ _ _ _ us hl => match us, hl with | [_, _], _ => rfl), fn_ok F_7 sc_dot fun cdv A outer s H E hr => ?_⟩
  have nd := sc_dot.nd
  exact (mss_cons (ms_asg (me_tup (ma_cons (me_var 0) (ma_cons (me_var 1) ma_nil))) (mg_tup rfl (mgs_cons (mg_tup rfl (mgs_cons (mg_name 2 nd) (mgs_cons (mg_name 3 nd) (mgs_cons (mg_name 4 nd) mgs_nil)))) (mgs_cons (mg_tup rfl (mgs_cons (mg_name 5 nd) (mgs_cons (mg_name 6 nd) (mgs_cons (mg_name 7 nd) mgs_nil)))) mgs_nil)))) (mss_cons (ms_ret (me_callF (ok_plus X G c) hr (ma_cons (me_callF (ok_plus X G c) hr (ma_cons (me_callF (ok_times X G c) hr (ma_cons (me_var 2) (ma_cons (me_var 5) ma_nil))) (ma_cons (me_callF (ok_times X G c) hr (ma_cons (me_var 3) (ma_cons (me_var 6) ma_nil))) ma_nil))) (ma_cons (me_callF (ok_times X G c) hr (ma_cons (me_var 4) (ma_cons (me_var 7) ma_nil))) ma_nil)))) mss_nil))
theorem ok_is_name : HasFn P w K mg base "is_name" 1 d_is_name := by
  obtain ⟨fd_8, F_8⟩ := c.d.def_ 8 (d := ⟨("is_name", none), "is_name", "is_name", defArgs s_is_name, defBody s_is_name, defScope s_is_name, [], []⟩) rfl
  refine ⟨_, fd_8, ["text"], He.glo_ok X G (c.d.fact 8 (f := .glo "is_name") rfl), F_8.kp, F_8.bindsN (fun _ _ _ _ _ _ us hl => match us, hl with | [_], _ => rfl), fn_ok F_8 sc_is_name fun cdv A outer s H E hr => ?_⟩
  have nd := sc_is_name.nd
  exact (mss_cons (ms_ret (me_and (me_chain op_le imp_cmp op_le imp_cmp me_int (mb_len (m_len X G c) (ma_cons (me_var 0) ma_nil)) (me_cst (c_NAME X G c))) (me_one (mbu_all rfl (m_all X G c) (mu_lc [("sign", 1)] rfl nd (mi_seqT (me_var 0)) (blkOk_by (N := ["text", "sign"]) (sc := defScope s_is_name) (by decide +kernel)) (fun _ _ _ _ _ => (pg_name (i := 1) nd rfl (Or.inl rfl))) (gc_name (by decide)) (fun _ _ _ _ _ => mts_nil) (fun _ _ _ _ _ => (me_inT (me_var 1) (me_cst (c_LETTERS X G c))))))))) mss_nil)
theorem ok_whole_in : HasFn P w K mg base "whole_in" 1 d_whole_in := by
  obtain ⟨fd_9, F_9⟩ := c.d.def_ 9 (d := ⟨("whole_in", none), "whole_in", "whole_in", defArgs s_whole_in, defBody s_whole_in, defScope s_whole_in, [], []⟩) rfl
  refine ⟨_, fd_9, ["text"], He.glo_ok X G (c.d.fact 9 (f := .glo "whole_in") rfl), F_9.kp, F_9.bindsN (fun _ _ _ _ _ _ us hl => match us, hl with | [_], _ => rfl), fn_ok F_9 sc_whole_in fun cdv A outer s H E hr => ?_⟩
  have nd := sc_whole_in.nd
  exact (mss_cons (ms_set 1 nd (me_var 0)) (mss_cons (ms_if (mt_val (mm_starts (me_var 0) me_str)) (mss_cons (ms_set 1 nd (me_slS (me_var 0) (mo_some me_int) mo_none)) mss_nil) mss_nil) (mss_cons (ms_if (mt_bool (mw_or (mt_not (mt_chain op_le imp_cmp op_le imp_cmp me_int (mb_len (m_len X G c) (ma_cons (me_var 1) ma_nil)) (me_cst (c_FIGURES X G c)))) (mw_or1 (mt_not (mt_val (mbu_all rfl (m_all X G c) (mu_lc [("sign", 2)] rfl nd (mi_seqT (me_var 1)) (blkOk_by (N := ["text", "figures", "sign"]) (sc := defScope s_whole_in) (by decide +kernel)) (fun _ _ _ _ _ => (pg_name (i := 2) nd rfl (Or.inl rfl))) (gc_name (by decide)) (fun _ _ _ _ _ => mts_nil) (fun _ _ _ _ _ => (me_inT (me_var 2) (me_cst (c_DIGITS X G c))))))))))) (mss_cons (ms_ret me_non) mss_nil) mss_nil) (mss_cons (ms_if (mt_bool (mw_and (mt_eq hr.units (me_ix (me_var 1) me_int) me_str) (mw_and1 (mt_ne hr.units (me_var 0) me_str)))) (mss_cons (ms_ret me_non) mss_nil) mss_nil) (mss_cons (ms_ret (mb_intT (m_int X G c) (ma_cons (me_var 0) ma_nil))) mss_nil)))))
theorem ok_common : HasFn P w K mg base "common" 1 d_common := by
  obtain ⟨fd_10, F_10⟩ := c.d.def_ 10 (d := ⟨("common", none), "common", "common", defArgs s_common, defBody s_common, defScope s_common, [], []⟩) rfl
  refine ⟨_, fd_10, ["one", "other"], He.glo_ok X G (c.d.fact 10 (f := .glo "common") rfl), F_10.kp, F_10.bindsN (fun _ _ _ _ _ _ us hl => match us, hl with | [_, _], _ => rfl), fn_ok F_10 sc_common fun cdv A outer s H E hr => ?_⟩
  have nd := sc_common.nd
  exact (mss_cons (ms_while PassesOwn.never (mt_ne hr.units (me_var 1) me_int) (mss_cons (ms_par 0 1 rfl nd (ma_cons (me_var 1) (ma_cons (me_mod (me_var 0) (me_var 1)) ma_nil))) mss_nil)) (mss_cons (ms_ret (me_var 0)) mss_nil))
theorem ok_number_in : HasFn P w K mg base "number_in" 2 d_number_in := by
  obtain ⟨fd_11, F_11⟩ := c.d.def_ 11 (d := ⟨("number_in", none), "number_in", "number_in", defArgs s_number_in, defBody s_number_in, defScope s_number_in, [], []⟩) rfl
  refine ⟨_, fd_11, ["text"], He.glo_ok X G (c.d.fact 11 (f := .glo "number_in") rfl), F_11.kp, F_11.bindsN (fun _ _ _ _ _ _ us hl => match us, hl with | [_], _ => rfl), fn_ok F_11 sc_number_in fun cdv A outer s H E hr => ?_⟩
  have nd := sc_number_in.nd
  exact (mss_cons (ms_asg (mm_part (me_var 0) me_str) (mg_tup rfl (mgs_cons (mg_name 1 nd) (mgs_cons (mg_name 2 nd) (mgs_cons (mg_name 3 nd) mgs_nil))))) (mss_cons (ms_set 4 nd (me_callF (ok_whole_in X G c) hr (ma_cons (me_var 1) ma_nil))) (mss_cons (ms_if (mt_bool (mw_or (mt_eq hr.units (me_var 2) me_str) (mw_or1 (mt_is (me_var 4) me_non)))) (mss_cons (ms_ret (me_if (mt_is (me_var 4) me_non) me_non (me_tup (ma_cons (me_var 4) (ma_cons me_int ma_nil))))) mss_nil) mss_nil) (mss_cons (ms_set 5 nd (me_callF (ok_whole_in X G c) hr (ma_cons (me_var 3) ma_nil))) (mss_cons (ms_if (mt_bool (mw_or (mt_is (me_var 5) me_non) (mw_or (mt_lt (me_var 5) me_int) (mw_or1 (mt_ne hr.units (me_callF (ok_common X G c) hr (ma_cons (mb_abs (m_abs X G c) (ma_cons (me_var 4) ma_nil)) (ma_cons (me_var 5) ma_nil))) me_int))))) (mss_cons (ms_ret me_non) mss_nil) mss_nil) (mss_cons (ms_ret (me_tup (ma_cons (me_var 4) (ma_cons (me_var 5) ma_nil)))) mss_nil))))))
theorem ok_words_of : HasFn P w K mg base "words_of" 1 d_words_of := by
  obtain ⟨fd_12, F_12⟩ := c.d.def_ 12 (d := ⟨("words_of", none), "words_of", "words_of", defArgs s_words_of, defBody s_words_of, defScope s_words_of, [], []⟩) rfl
  refine ⟨_, fd_12, ["row"], He.glo_ok X G (c.d.fact 12 (f := .glo "words_of") rfl), F_12.kp, F_12.bindsN (fun _ _ _ _ _ _ us hl => match us, hl with | [_], _ => rfl), fn_ok F_12 sc_words_of fun cdv A outer s H E hr => ?_⟩
  have nd := sc_words_of.nd
  exact (mss_cons (ms_setLc 1 [("word", 2)] rfl nd (mi_seq (mm_split (me_var 0) me_str)) (blkOk_by (N := ["row", "words", "word"]) (sc := defScope s_words_of) (by decide +kernel)) (fun _ _ _ _ _ => (pg_name (i := 2) nd rfl (Or.inl rfl))) (gc_name (by decide)) (fun _ _ _ _ _ => (mts_one (mt_ne hr.units (me_var 2) me_str))) (fun _ _ _ _ _ => (me_var 2))) (mss_cons (ms_if (mt_bool (mw_and (mt_gt (mb_len (m_len X G c) (ma_cons (me_var 1) ma_nil)) me_int) (mw_and1 (mt_val (mm_starts (me_ix (me_var 1) me_int) (me_cst (c_NOTE X G c))))))) (mss_cons (ms_ret (me_own (mu_lst ma_nil))) mss_nil) mss_nil) (mss_cons (ms_ret (me_var 1)) mss_nil)))
theorem ok_is_short : HasFn P w K mg base "is_short" 1 d_is_short := by
  obtain ⟨fd_13, F_13⟩ := c.d.def_ 13 (d := ⟨("is_short", none), "is_short", "is_short", defArgs s_is_short, defBody s_is_short, defScope s_is_short, [], []⟩) rfl
  refine ⟨_, fd_13, ["row"], He.glo_ok X G (c.d.fact 13 (f := .glo "is_short") rfl), F_13.kp, F_13.bindsN (fun _ _ _ _ _ _ us hl => match us, hl with | [_], _ => rfl), fn_ok F_13 sc_is_short fun cdv A outer s H E hr => ?_⟩
  have nd := sc_is_short.nd
  exact (mss_cons (ms_ret (me_and (me_le (mb_len (m_len X G c) (ma_cons (me_var 0) ma_nil)) (me_cst (c_SIGNS X G c))) (me_one (mbu_all rfl (m_all X G c) (mu_lc [("sign", 1)] rfl nd (mi_seqT (me_var 0)) (blkOk_by (N := ["row", "sign"]) (sc := defScope s_is_short) (by decide +kernel)) (fun _ _ _ _ _ => (pg_name (i := 1) nd rfl (Or.inl rfl))) (gc_name (by decide)) (fun _ _ _ _ _ => mts_nil) (fun _ _ _ _ _ => (me_chain op_le_str imp_leT op_le_str imp_leT me_str (me_var 1) me_str))))))) mss_nil)
theorem ok_is_shaped : HasFn P w K mg base "is_shaped" 1 d_is_shaped := by
  obtain ⟨fd_14, F_14⟩ := c.d.def_ 14 (d := ⟨("is_shaped", none), "is_shaped", "is_shaped", defArgs s_is_shaped, defBody s_is_shaped, defScope s_is_shaped, [], []⟩) rfl
  refine ⟨_, fd_14, ["words"], He.glo_ok X G (c.d.fact 14 (f := .glo "is_shaped") rfl), F_14.kp, F_14.bindsN (fun _ _ _ _ _ _ us hl => match us, hl with | [_], _ => rfl), fn_ok F_14 sc_is_shaped fun cdv A outer s H E hr => ?_⟩
  have nd := sc_is_shaped.nd
  exact (mss_cons (ms_if (mt_notIn (mb_len (m_len X G c) (ma_cons (me_var 0) ma_nil)) (me_tabG (q_COUNTS X G c) (me_ix (me_var 0) me_int) (me_tup ma_nil))) (mss_cons (ms_ret me_bl) mss_nil) mss_nil) (mss_cons (ms_if (mt_bool (mw_or (mt_ne hr.units (me_ix (me_var 0) me_int) me_str) (mw_or1 (mt_eq hr.units (mb_len (m_len X G c) (ma_cons (me_var 0) ma_nil)) me_int)))) (mss_cons (ms_ret me_bl) mss_nil) mss_nil) (mss_cons (ms_if (mt_bool (mw_and (mt_in (mb_len (m_len X G c) (ma_cons (me_var 0) ma_nil)) (me_tup (ma_cons me_int (ma_cons me_int ma_nil)))) (mw_and1 (mt_ne hr.units (me_ix (me_var 0) me_int) (me_cst (c_MIRROR X G c)))))) (mss_cons (ms_ret me_bl) mss_nil) mss_nil) (mss_cons (ms_ret (me_or (me_eq hr.units (mb_len (m_len X G c) (ma_cons (me_var 0) ma_nil)) me_int) (me_one (me_eq hr.units (me_ix (me_var 0) (me_neg me_int)) (me_cst (c_MOVE X G c)))))) mss_nil))))
theorem ok_names_in : HasFn P w K mg base "names_in" 1 d_names_in := by
  obtain ⟨fd_15, F_15⟩ := c.d.def_ 15 (d := ⟨("names_in", none), "names_in", "names_in", defArgs s_names_in, defBody s_names_in, defScope s_names_in, [], []⟩) rfl
  refine ⟨_, fd_15, ["words"], He.glo_ok X G (c.d.fact 15 (f := .glo "names_in") rfl), F_15.kp, F_15.bindsN (fun _ _ _ _ _ _ us hl => match us, hl with | [_], _ => rfl), fn_ok F_15 sc_names_in fun cdv A outer s H E hr => ?_⟩
  have nd := sc_names_in.nd
  exact (mss_cons (ms_ret (me_own (mu_lc [("at", 1)] rfl nd (mi_seq (me_tabG (q_NAMES X G c) (me_ix (me_var 0) me_int) (me_tup (ma_cons me_int ma_nil)))) (blkOk_by (N := ["words", "at"]) (sc := defScope s_names_in) (by decide +kernel)) (fun _ _ _ _ _ => (pg_name (i := 1) nd rfl (Or.inl rfl))) (gc_name (by decide)) (fun _ _ _ _ _ => mts_nil) (fun _ _ _ _ _ => (me_ix (me_var 0) (me_var 1)))))) mss_nil)
theorem ok_numbers_in : HasFn P w K mg base "numbers_in" 1 d_numbers_in := by
  obtain ⟨fd_16, F_16⟩ := c.d.def_ 16 (d := ⟨("numbers_in", none), "numbers_in", "numbers_in", defArgs s_numbers_in, defBody s_numbers_in, defScope s_numbers_in, [], []⟩) rfl
  refine ⟨_, fd_16, ["words"], He.glo_ok X G (c.d.fact 16 (f := .glo "numbers_in") rfl), F_16.kp, F_16.bindsN (fun _ _ _ _ _ _ us hl => match us, hl with | [_], _ => rfl), fn_ok F_16 sc_numbers_in fun cdv A outer s H E hr => ?_⟩
  have nd := sc_numbers_in.nd
  exact (mss_cons (ms_if (mt_eq hr.units (me_ix (me_var 0) me_int) me_str) (mss_cons (ms_ret (me_if (mt_gt (mb_len (m_len X G c) (ma_cons (me_var 0) ma_nil)) me_int) (me_sl (me_var 0) (mo_some (me_sub (mb_len (m_len X G c) (ma_cons (me_var 0) ma_nil)) me_int)) mo_none) (me_own (mu_lst ma_nil)))) mss_nil) mss_nil) (mss_cons (ms_asg (me_tabG (q_NUMBERS X G c) (me_ix (me_var 0) me_int) (me_tup (ma_cons me_int (ma_cons me_int ma_nil)))) (mg_tup rfl (mgs_cons (mg_name 1 nd) (mgs_cons (mg_name 2 nd) mgs_nil)))) (mss_cons (ms_ret (me_sl (me_var 0) (mo_some (me_var 1)) (mo_some (me_var 2)))) mss_nil)))
theorem ok_is_cells : HasFn P w K mg base "is_cells" 2 d_is_cells := by
  obtain ⟨fd_17, F_17⟩ := c.d.def_ 17 (d := ⟨("is_cells", none), "is_cells", "is_cells", defArgs s_is_cells, defBody s_is_cells, defScope s_is_cells, [], []⟩) rfl
  refine ⟨_, fd_17, ["text", "most"], He.glo_ok X G (c.d.fact 17 (f := .glo "is_cells") rfl), F_17.kp, F_17.bindsN (fun _ _ _ _ _ _ us hl => match us, hl with | [_, _], _ => rfl), fn_ok F_17 sc_is_cells fun cdv A outer s H E hr => ?_⟩
  have nd := sc_is_cells.nd
  exact (mss_cons (ms_set 2 nd (me_callF (ok_whole_in X G c) hr (ma_cons (me_var 0) ma_nil))) (mss_cons (ms_ret (me_and (me_isNot (me_var 2) me_non) (me_one (me_chain op_le imp_cmp op_le imp_cmp me_int (me_var 2) (me_var 1))))) mss_nil))
theorem ok_between : HasFn P w K mg base "between" 4 d_between := by
  obtain ⟨fd_18, F_18⟩ := c.d.def_ 18 (d := ⟨("between", none), "between", "between", defArgs s_between, defBody s_between, defScope s_between, [], []⟩) rfl
  refine ⟨_, fd_18, ["one", "other"], He.glo_ok X G (c.d.fact 18 (f := .glo "between") rfl), F_18.kp, F_18.bindsN (fun _ _ _ _ _ _ us hl => match us, hl with | [_, _], _ => rfl), fn_ok F_18 sc_between fun cdv A outer s H E hr => ?_⟩
  have nd := sc_between.nd
  exact (mss_cons (ms_ret (mbu_tuple (m_tuple X G c) (mu_lc [("begin", 2), ("end", 3)] rfl nd (mi_zip (by rfl) (m_zip X G c) (ma_cons (me_var 0) (ma_cons (me_var 1) ma_nil))) (blkOk_by (N := ["one", "other", "begin", "end"]) (sc := defScope s_between) (by decide +kernel)) (fun _ _ _ _ _ => (pg_tup rfl (pgs_cons (pg_name (i := 2) nd rfl (Or.inl rfl)) (pgs_cons (pg_name (i := 3) nd rfl (Or.inl rfl)) pgs_nil)))) (gc_tup (gcs_cons (by decide) (gcs_cons (by decide) gcs_nil))) (fun _ _ _ _ _ => mts_nil) (fun _ _ _ _ _ => (me_callF (ok_minus X G c) hr (ma_cons (me_var 3) (ma_cons (me_var 2) ma_nil))))))) mss_nil)
theorem ok_across : HasFn P w K mg base "across" 4 d_across := by
  obtain ⟨fd_19, F_19⟩ := c.d.def_ 19 (d := ⟨("across", none), "across", "across", defArgs s_across, defBody s_across, defScope s_across, [], []⟩) rfl
  refine ⟨_, fd_19, ["one", "other"], He.glo_ok X G (c.d.fact 19 (f := .glo "across") rfl), F_19.kp, F_19.bindsN (fun _ _ _ _ _ _ us hl => match us, hl with | [_, _], _ => rfl), fn_ok F_19 sc_across fun cdv A outer s H E hr => ?_⟩
  have nd := sc_across.nd
  exact (mss_cons (ms_ret (mbu_tuple (m_tuple X G c) (mu_lc [("j", 2), ("k", 3)] rfl nd (mi_seq (me_tup (ma_cons (me_tup (ma_cons me_int (ma_cons me_int ma_nil))) (ma_cons (me_tup (ma_cons me_int (ma_cons me_int ma_nil))) (ma_cons (me_tup (ma_cons me_int (ma_cons me_int ma_nil))) ma_nil))))) (blkOk_by (N := ["one", "other", "j", "k"]) (sc := defScope s_across) (by decide +kernel)) (fun _ _ _ _ _ => (pg_tup rfl (pgs_cons (pg_name (i := 2) nd rfl (Or.inl rfl)) (pgs_cons (pg_name (i := 3) nd rfl (Or.inl rfl)) pgs_nil)))) (gc_tup (gcs_cons (by decide) (gcs_cons (by decide) gcs_nil))) (fun _ _ _ _ _ => mts_nil) (fun _ _ _ _ _ => (me_callF (ok_minus X G c) hr (ma_cons (me_callF (ok_times X G c) hr (ma_cons (me_ix (me_var 0) (me_var 2)) (ma_cons (me_ix (me_var 1) (me_var 3)) ma_nil))) (ma_cons (me_callF (ok_times X G c) hr (ma_cons (me_ix (me_var 0) (me_var 3)) (ma_cons (me_ix (me_var 1) (me_var 2)) ma_nil))) ma_nil))))))) mss_nil)
theorem ok_is_box : HasFn P w K mg base "is_box" 4 d_is_box := by
  obtain ⟨fd_20, F_20⟩ := c.d.def_ 20 (d := ⟨("is_box", none), "is_box", "is_box", defArgs s_is_box, defBody s_is_box, defScope s_is_box, [], []⟩) rfl
  refine ⟨_, fd_20, ["numbers"], He.glo_ok X G (c.d.fact 20 (f := .glo "is_box") rfl), F_20.kp, F_20.bindsN (fun _ _ _ _ _ _ us hl => match us, hl with | [_], _ => rfl), fn_ok F_20 sc_is_box fun cdv A outer s H E hr => ?_⟩
  have nd := sc_is_box.nd
  exact (mss_cons (ms_ret (mbu_all rfl (m_all X G c) (mu_lc [("low", 1), ("high", 2)] rfl nd (mi_zip (by rfl) (m_zip X G c) (ma_cons (me_sl (me_var 0) mo_none (mo_some me_int)) (ma_cons (me_sl (me_var 0) (mo_some me_int) mo_none) ma_nil))) (blkOk_by (N := ["numbers", "low", "high"]) (sc := defScope s_is_box) (by decide +kernel)) (fun _ _ _ _ _ => (pg_tup rfl (pgs_cons (pg_name (i := 1) nd rfl (Or.inl rfl)) (pgs_cons (pg_name (i := 2) nd rfl (Or.inl rfl)) pgs_nil)))) (gc_tup (gcs_cons (by decide) (gcs_cons (by decide) gcs_nil))) (fun _ _ _ _ _ => mts_nil) (fun _ _ _ _ _ => (me_gt (me_callF (ok_sign X G c) hr (ma_cons (me_callF (ok_minus X G c) hr (ma_cons (me_var 2) (ma_cons (me_var 1) ma_nil))) ma_nil)) me_int))))) mss_nil)
theorem ok_is_ball : HasFn P w K mg base "is_ball" 2 d_is_ball := by
  obtain ⟨fd_21, F_21⟩ := c.d.def_ 21 (d := ⟨("is_ball", none), "is_ball", "is_ball", defArgs s_is_ball, defBody s_is_ball, defScope s_is_ball, [], []⟩) rfl
  refine ⟨_, fd_21, ["numbers"], He.glo_ok X G (c.d.fact 21 (f := .glo "is_ball") rfl), F_21.kp, F_21.bindsN (fun _ _ _ _ _ _ us hl => match us, hl with | [_], _ => rfl), fn_ok F_21 sc_is_ball fun cdv A outer s H E hr => ?_⟩
  have nd := sc_is_ball.nd
  exact (mss_cons (ms_ret (me_gt (me_callF (ok_sign X G c) hr (ma_cons (me_ix (me_var 0) me_int) ma_nil)) me_int)) mss_nil)
theorem ok_is_half : HasFn P w K mg base "is_half" 1 d_is_half := by
  obtain ⟨fd_22, F_22⟩ := c.d.def_ 22 (d := ⟨("is_half", none), "is_half", "is_half", defArgs s_is_half, defBody s_is_half, defScope s_is_half, [], []⟩) rfl
  refine ⟨_, fd_22, ["numbers"], He.glo_ok X G (c.d.fact 22 (f := .glo "is_half") rfl), F_22.kp, F_22.bindsN (fun _ _ _ _ _ _ us hl => match us, hl with | [_], _ => rfl), fn_ok F_22 sc_is_half fun cdv A outer s H E hr => ?_⟩
  have nd := sc_is_half.nd
  exact (mss_cons (ms_ret (me_ne hr.units (mb_tuple (m_tuple X G c) (ma_cons (me_sl (me_var 0) mo_none (mo_some me_int)) ma_nil)) (me_cst (c_STILL X G c)))) mss_nil)
theorem ok_is_turn : HasFn P w K mg base "is_turn" 4 d_is_turn := by
  obtain ⟨fd_23, F_23⟩ := c.d.def_ 23 (d := ⟨("is_turn", none), "is_turn", "is_turn", defArgs s_is_turn, defBody s_is_turn, defScope s_is_turn, [], []⟩) rfl
  refine ⟨_, fd_23, ["numbers"], He.glo_ok X G (c.d.fact 23 (f := .glo "is_turn") rfl), F_23.kp, F_23.bindsN (fun _ _ _ _ _ _ us hl => match us, hl with | [_], _ => rfl), fn_ok F_23 sc_is_turn fun cdv A outer s H E hr => ?_⟩
  have nd := sc_is_turn.nd
  exact (mss_cons (ms_ret (me_eq hr.units (me_callF (ok_plus X G c) hr (ma_cons (me_callF (ok_times X G c) hr (ma_cons (me_ix (me_var 0) me_int) (ma_cons (me_ix (me_var 0) me_int) ma_nil))) (ma_cons (me_callF (ok_times X G c) hr (ma_cons (me_ix (me_var 0) me_int) (ma_cons (me_ix (me_var 0) me_int) ma_nil))) ma_nil))) (me_cst (c_ONE X G c)))) mss_nil)
theorem ok_is_window : HasFn P w K mg base "is_window" 5 d_is_window := by
  obtain ⟨fd_24, F_24⟩ := c.d.def_ 24 (d := ⟨("is_window", none), "is_window", "is_window", defArgs s_is_window, defBody s_is_window, defScope s_is_window, [], []⟩) rfl
  refine ⟨_, fd_24, ["numbers"], He.glo_ok X G (c.d.fact 24 (f := .glo "is_window") rfl), F_24.kp, F_24.bindsN (fun _ _ _ _ _ _ us hl => match us, hl with | [_], _ => rfl), fn_ok F_24 sc_is_window fun cdv A outer s H E hr => ?_⟩
  have nd := sc_is_window.nd
  exact (mss_cons (ms_set 1 nd (me_callF (ok_between X G c) hr (ma_cons (me_sl (me_var 0) mo_none (mo_some me_int)) (ma_cons (me_sl (me_var 0) (mo_some me_int) (mo_some me_int)) ma_nil)))) (mss_cons (ms_ret (me_ne hr.units (me_callF (ok_dot X G c) hr (ma_cons (me_callF (ok_across X G c) hr (ma_cons (me_sl (me_var 0) (mo_some me_int) (mo_some me_int)) (ma_cons (me_sl (me_var 0) (mo_some me_int) (mo_some me_int)) ma_nil))) (ma_cons (me_var 1) ma_nil))) (me_cst (c_NOUGHT X G c)))) mss_nil))
theorem ok_is_any : HasFn P w K mg base "is_any" 1 d_is_any := by
  obtain ⟨fd_25, F_25⟩ := c.d.def_ 25 (d := ⟨("is_any", none), "is_any", "is_any", defArgs s_is_any, defBody s_is_any, defScope s_is_any, [], []⟩) rfl
  refine ⟨_, fd_25, ["numbers"], He.glo_ok X G (c.d.fact 25 (f := .glo "is_any") rfl), F_25.kp, F_25.bindsN (fun _ _ _ _ _ _ us hl => match us, hl with | [_], _ => rfl), fn_ok F_25 sc_is_any fun cdv A outer s H E hr => ?_⟩
  have nd := sc_is_any.nd
  exact (mss_cons (ms_ret me_bl) mss_nil)
theorem ok_form_of : HasFn P w K mg base "form_of" 1 d_form_of := by
  obtain ⟨fd_26, F_26⟩ := c.d.def_ 26 (d := ⟨("form_of", none), "form_of", "form_of", defArgs s_form_of, defBody s_form_of, defScope s_form_of, [], []⟩) rfl
  refine ⟨_, fd_26, ["words", "numbers", "places"], He.glo_ok X G (c.d.fact 26 (f := .glo "form_of") rfl), F_26.kp, F_26.bindsN (fun _ _ _ _ _ _ us hl => match us, hl with | [_, _, _], _ => rfl), fn_ok F_26 sc_form_of fun cdv A outer s H E hr => ?_⟩
  have nd := sc_form_of.nd
  exact (mss_cons (ms_set 3 nd (me_ix (me_var 0) me_int)) (mss_cons (ms_if (mt_eq hr.units (me_var 3) me_str) (mss_cons (ms_ret (me_tup (ma_cons (me_var 3) (ma_cons (mb_tuple (m_tuple X G c) (ma_cons (me_sl (me_var 1) mo_none (mo_some me_int)) ma_nil)) (ma_cons (mb_tuple (m_tuple X G c) (ma_cons (me_sl (me_var 1) (mo_some me_int) mo_none) ma_nil)) ma_nil))))) mss_nil) mss_nil) (mss_cons (ms_if (mt_in (me_var 3) (me_tup (ma_cons me_str (ma_cons me_str ma_nil)))) (mss_cons (ms_ret (me_tup (ma_cons (me_var 3) (ma_cons (mb_tuple (m_tuple X G c) (ma_cons (me_sl (me_var 1) mo_none (mo_some me_int)) ma_nil)) (ma_cons (me_ix (me_var 1) me_int) ma_nil))))) mss_nil) mss_nil) (mss_cons (ms_if (mt_eq hr.units (me_var 3) me_str) (mss_cons (ms_ret (me_tup (ma_cons (me_var 3) (ma_cons (me_ix (me_var 2) me_int) (ma_cons (mb_tuple (m_tuple X G c) (ma_cons (me_var 1) ma_nil)) ma_nil))))) mss_nil) mss_nil) (mss_cons (ms_if (mt_eq hr.units (me_var 3) me_str) (mss_cons (ms_ret (me_tup (ma_cons (me_var 3) (ma_cons (me_ix (me_var 2) me_int) (ma_cons (me_ix (me_var 0) me_int) (ma_cons (me_ix (me_var 1) me_int) (ma_cons (me_ix (me_var 1) me_int) ma_nil))))))) mss_nil) mss_nil) (mss_cons (ms_ret (me_add (me_tup (ma_cons (me_var 3) ma_nil)) (mb_tuple (m_tuple X G c) (ma_cons (me_var 2) ma_nil)))) mss_nil))))))
theorem hok_KDraft___init__ : HasMk P w K mg base "Draft" 1 d_KDraft___init__ := by
  obtain ⟨fd_27, F_27⟩ := c.d.def_ 27 (d := ⟨("Draft", some "__init__"), "__init__", "Draft.__init__", defArgs s_KDraft___init__, defBody s_KDraft___init__, defScope s_KDraft___init__, [], []⟩) rfl
  refine ⟨_, _, fd_27, ["self"], He.glo_ok X G (c.d.fact 47 (f := .glo "Draft") rfl), He.mkr_ok (c.d.fact 63 (f := .mkr "Draft") rfl), F_27.bindsN (fun _ _ _ _ _ _ us hl => match us, hl with | [_], _ => rfl), fn_ok F_27 sc_KDraft___init__ fun cdv A outer s H E hr => ?_⟩
  have nd := sc_KDraft___init__.nd
  exact (mss_cons (ms_attr (me_own (mu_lst ma_nil)) (me_var 0) (kls_Draft X G c) (noa_Draft_bodies X G c)) (mss_cons (ms_attr (me_own (mu_lst ma_nil)) (me_var 0) (kls_Draft X G c) (noa_Draft_leaves X G c)) (mss_cons (ms_attr me_dk0 (me_var 0) (kls_Draft X G c) (noa_Draft_body_rows X G c)) (mss_cons (ms_attr (me_own (mu_lst ma_nil)) (me_var 0) (kls_Draft X G c) (noa_Draft_things X G c)) (mss_cons (ms_attr me_dk0 (me_var 0) (kls_Draft X G c) (noa_Draft_thing_rows X G c)) (mss_cons (ms_attr (me_own (mu_lst ma_nil)) (me_var 0) (kls_Draft X G c) (noa_Draft_lamps X G c)) (mss_cons (ms_attr (me_own (mu_lst ma_nil)) (me_var 0) (kls_Draft X G c) (noa_Draft_looks X G c)) (mss_cons (ms_attr (me_own (mu_lst ma_nil)) (me_var 0) (kls_Draft X G c) (noa_Draft_wrongs X G c)) mss_nil))))))))
theorem hok_KDraft_number_of : HasMt P w K mg base "Draft" "number_of" 1 d_KDraft_number_of := by
  obtain ⟨fd_28, F_28⟩ := c.d.def_ 28 (d := ⟨("Draft", some "number_of"), "number_of", "Draft.number_of", defArgs s_KDraft_number_of, defBody s_KDraft_number_of, defScope s_KDraft_number_of, [], []⟩) rfl
  refine ⟨_, _, fd_28, ["self", "name"], He.glo_ok X G (c.d.fact 47 (f := .glo "Draft") rfl), He.meth_ok (c.d.fact 57 (f := .meth "Draft" "number_of") rfl), F_28.bindsN (fun _ _ _ _ _ _ us hl => match us, hl with | [_, _], _ => rfl), fn_ok F_28 sc_KDraft_number_of fun cdv A outer s H E hr => ?_⟩
  have nd := sc_KDraft_number_of.nd
  exact (mss_cons (ms_ret (mm_index (me_own (mu_lc [("own", 2), ("form", 3)] rfl nd (mi_seq (me_fld (me_var 0) (kls_Draft X G c) (noa_Draft_bodies X G c))) (blkOk_by (N := ["self", "name", "own", "form"]) (sc := defScope s_KDraft_number_of) (by decide +kernel)) (fun _ _ _ _ _ => (pg_tup rfl (pgs_cons (pg_name (i := 2) nd rfl (Or.inl rfl)) (pgs_cons (pg_name (i := 3) nd rfl (Or.inl rfl)) pgs_nil)))) (gc_tup (gcs_cons (by decide) (gcs_cons (by decide) gcs_nil))) (fun _ _ _ _ _ => mts_nil) (fun _ _ _ _ _ => (me_var 2)))) (ma_cons (me_var 1) ma_nil))) mss_nil)
theorem hok_KDraft_is_many : HasMt P w K mg base "Draft" "is_many" 2 d_KDraft_is_many := by
  obtain ⟨fd_29, F_29⟩ := c.d.def_ 29 (d := ⟨("Draft", some "is_many"), "is_many", "Draft.is_many", defArgs s_KDraft_is_many, defBody s_KDraft_is_many, defScope s_KDraft_is_many, [], []⟩) rfl
  refine ⟨_, _, fd_29, ["self", "words"], He.glo_ok X G (c.d.fact 47 (f := .glo "Draft") rfl), He.meth_ok (c.d.fact 60 (f := .meth "Draft" "is_many") rfl), F_29.bindsN (fun _ _ _ _ _ _ us hl => match us, hl with | [_, _], _ => rfl), fn_ok F_29 sc_KDraft_is_many fun cdv A outer s H E hr => ?_⟩
  have nd := sc_KDraft_is_many.nd
  exact (mss_cons (ms_if (mt_eq hr.units (me_ix (me_var 1) me_int) me_str) (mss_cons (ms_ret (me_or (me_eq hr.units (mb_len (m_len X G c) (ma_cons (me_fld (me_var 0) (kls_Draft X G c) (noa_Draft_things X G c)) ma_nil)) (me_cst (c_THINGS X G c))) (me_one (me_gt (me_ix (me_fld (me_var 0) (kls_Draft X G c) (noa_Draft_leaves X G c)) (me_meth (me_var 0) (kls_Draft X G c) (hok_KDraft_number_of X G c) hr (ma_cons (me_ix (me_var 1) me_int) ma_nil))) (me_cst (c_LEAVES X G c)))))) mss_nil) mss_nil) (mss_cons (ms_if (mt_eq hr.units (me_ix (me_var 1) me_int) me_str) (mss_cons (ms_ret (me_eq hr.units (mb_len (m_len X G c) (ma_cons (me_fld (me_var 0) (kls_Draft X G c) (noa_Draft_lamps X G c)) ma_nil)) (me_cst (c_LAMPS X G c)))) mss_nil) mss_nil) (mss_cons (ms_if (mt_eq hr.units (me_ix (me_var 1) me_int) me_str) (mss_cons (ms_ret (me_eq hr.units (mb_len (m_len X G c) (ma_cons (me_fld (me_var 0) (kls_Draft X G c) (noa_Draft_looks X G c)) ma_nil)) (me_cst (c_LOOKS X G c)))) mss_nil) mss_nil) (mss_cons (ms_ret (me_eq hr.units (mb_len (m_len X G c) (ma_cons (me_fld (me_var 0) (kls_Draft X G c) (noa_Draft_bodies X G c)) ma_nil)) (me_cst (c_BODIES X G c)))) mss_nil))))
theorem hok_KDraft_is_twice : HasMt P w K mg base "Draft" "is_twice" 1 d_KDraft_is_twice := by
  obtain ⟨fd_30, F_30⟩ := c.d.def_ 30 (d := ⟨("Draft", some "is_twice"), "is_twice", "Draft.is_twice", defArgs s_KDraft_is_twice, defBody s_KDraft_is_twice, defScope s_KDraft_is_twice, [], []⟩) rfl
  refine ⟨_, _, fd_30, ["self", "words"], He.glo_ok X G (c.d.fact 47 (f := .glo "Draft") rfl), He.meth_ok (c.d.fact 59 (f := .meth "Draft" "is_twice") rfl), F_30.bindsN (fun _ _ _ _ _ _ us hl => match us, hl with | [_, _], _ => rfl), fn_ok F_30 sc_KDraft_is_twice fun cdv A outer s H E hr => ?_⟩
  have nd := sc_KDraft_is_twice.nd
  exact (mss_cons (ms_asg (me_var 1) (mg_star rfl (mgs_cons (mg_name 2 nd) (mgs_cons (mg_name 3 nd) (mgs_starred (mg_name 4 nd)))))) (mss_cons (ms_if (mt_eq hr.units (me_var 2) me_str) (mss_cons (ms_ret (me_inK (units1 hr) (me_var 3) (me_fld (me_var 0) (kls_Draft X G c) (noa_Draft_thing_rows X G c)))) mss_nil) mss_nil) (mss_cons (ms_if (mt_eq hr.units (me_var 2) me_str) (mss_cons (ms_ret (me_in (me_var 3) (me_own (mu_lc [("own", 5), ("point", 6)] rfl nd (mi_seq (me_fld (me_var 0) (kls_Draft X G c) (noa_Draft_lamps X G c))) (blkOk_by (N := ["self", "words", "word", "name", "rest", "own", "point", "parts"]) (sc := defScope s_KDraft_is_twice) (by decide +kernel)) (fun _ _ _ _ _ => (pg_tup rfl (pgs_cons (pg_name (i := 5) nd rfl (Or.inl rfl)) (pgs_cons (pg_name (i := 6) nd rfl (Or.inl rfl)) pgs_nil)))) (gc_tup (gcs_cons (by decide) (gcs_cons (by decide) gcs_nil))) (fun _ _ _ _ _ => mts_nil) (fun _ _ _ _ _ => (me_var 5)))))) mss_nil) mss_nil) (mss_cons (ms_if (mt_eq hr.units (me_var 2) me_str) (mss_cons (ms_ret (me_in (me_var 3) (me_own (mu_lc [("own", 5), ("parts", 7)] rfl nd (mi_seq (me_fld (me_var 0) (kls_Draft X G c) (noa_Draft_looks X G c))) (blkOk_by (N := ["self", "words", "word", "name", "rest", "own", "point", "parts"]) (sc := defScope s_KDraft_is_twice) (by decide +kernel)) (fun _ _ _ _ _ => (pg_star rfl (pgs_cons (pg_name (i := 5) nd rfl (Or.inl rfl)) (pgs_starred (pg_name (i := 7) nd rfl (Or.inl rfl)))))) (gc_star (gcs_cons (by decide) (gcs_cons (by decide) gcs_nil))) (fun _ _ _ _ _ => mts_nil) (fun _ _ _ _ _ => (me_var 5)))))) mss_nil) mss_nil) (mss_cons (ms_ret (me_inK (units1 hr) (me_var 3) (me_fld (me_var 0) (kls_Draft X G c) (noa_Draft_body_rows X G c)))) mss_nil)))))
theorem hok_KDraft_spoken : HasMt P w K mg base "Draft" "spoken" 1 d_KDraft_spoken := by
  obtain ⟨fd_31, F_31⟩ := c.d.def_ 31 (d := ⟨("Draft", some "spoken"), "spoken", "Draft.spoken", defArgs s_KDraft_spoken, defBody s_KDraft_spoken, defScope s_KDraft_spoken, [], []⟩) rfl
  refine ⟨_, _, fd_31, ["self", "words"], He.glo_ok X G (c.d.fact 47 (f := .glo "Draft") rfl), He.meth_ok (c.d.fact 58 (f := .meth "Draft" "spoken") rfl), F_31.bindsN (fun _ _ _ _ _ _ us hl => match us, hl with | [_, _], _ => rfl), fn_ok F_31 sc_KDraft_spoken fun cdv A outer s H E hr => ?_⟩
  have nd := sc_KDraft_spoken.nd
  exact (mss_cons (ms_if (mt_in (me_ix (me_var 1) me_int) (me_cst (c_PAIRS X G c))) (mss_cons (ms_ret (me_sl (me_var 1) (mo_some me_int) (mo_some me_int))) mss_nil) mss_nil) (mss_cons (ms_if (mt_in (me_ix (me_var 1) me_int) (me_cst (c_PLACED X G c))) (mss_cons (ms_ret (me_sl (me_var 1) (mo_some me_int) (mo_some me_int))) mss_nil) mss_nil) (mss_cons (ms_ret (me_if (mt_eq hr.units (me_ix (me_var 1) me_int) me_str) (me_sl (me_var 1) (mo_some me_int) (mo_some me_int)) (me_own (mu_lst ma_nil)))) mss_nil)))
theorem hok_KDraft_fault : HasMt P w K mg base "Draft" "fault" 6 d_KDraft_fault := by
  obtain ⟨fd_32, F_32⟩ := c.d.def_ 32 (d := ⟨("Draft", some "fault"), "fault", "Draft.fault", defArgs s_KDraft_fault, defBody s_KDraft_fault, defScope s_KDraft_fault, [], []⟩) rfl
  refine ⟨_, _, fd_32, ["self", "words"], He.glo_ok X G (c.d.fact 47 (f := .glo "Draft") rfl), He.meth_ok (c.d.fact 61 (f := .meth "Draft" "fault") rfl), F_32.bindsN (fun _ _ _ _ _ _ us hl => match us, hl with | [_, _], _ => rfl), fn_ok F_32 sc_KDraft_fault fun cdv A outer s H E hr => ?_⟩
  have nd := sc_KDraft_fault.nd
  exact (mss_cons (ms_if (mt_not (mt_val (me_callF (ok_is_shaped X G c) hr (ma_cons (me_var 1) ma_nil)))) (mss_cons (ms_ret me_str) mss_nil) mss_nil) (mss_cons (ms_if (mt_not (mt_val (mbu_all rfl (m_all X G c) (mu_lc [("name", 3)] rfl nd (mi_seq (me_callF (ok_names_in X G c) hr (ma_cons (me_var 1) ma_nil))) (blkOk_by (N := ["self", "words", "fits", "name", "text"]) (sc := defScope s_KDraft_fault) (by decide +kernel)) (fun _ _ _ _ _ => (pg_name (i := 3) nd rfl (Or.inl rfl))) (gc_name (by decide)) (fun _ _ _ _ _ => mts_nil) (fun _ _ _ _ _ => (me_callF (ok_is_name X G c) hr (ma_cons (me_var 3) ma_nil))))))) (mss_cons (ms_ret me_str) mss_nil) mss_nil) (mss_cons (ms_if (mt_bool (mw_and (mt_eq hr.units (me_ix (me_var 1) me_int) me_str) (mw_and1 (mt_notIn (me_ix (me_var 1) me_int) (me_cst (c_AXES X G c)))))) (mss_cons (ms_ret me_str) mss_nil) mss_nil) (mss_cons (ms_if (mt_inDU (units65 hr) me_non (mu_lc [("text", 4)] rfl nd (mi_seq (me_callF (ok_numbers_in X G c) hr (ma_cons (me_var 1) ma_nil))) (blkOk_by (N := ["self", "words", "fits", "name", "text"]) (sc := defScope s_KDraft_fault) (by decide +kernel)) (fun _ _ _ _ _ => (pg_name (i := 4) nd rfl (Or.inl rfl))) (gc_name (by decide)) (fun _ _ _ _ _ => mts_nil) (fun _ _ _ _ _ => (me_callF (ok_number_in X G c) hr (ma_cons (me_var 4) ma_nil))))) (mss_cons (ms_ret me_str) mss_nil) mss_nil) (mss_cons (ms_if (mt_bool (mw_and (mt_eq hr.units (me_ix (me_var 1) me_int) me_str) (mw_and1 (mt_not (mt_val (mbu_all rfl (m_all X G c) (mu_lc [("text", 4)] rfl nd (mi_seq (me_sl (me_var 1) (mo_some me_int) mo_none)) (blkOk_by (N := ["self", "words", "fits", "name", "text"]) (sc := defScope s_KDraft_fault) (by decide +kernel)) (fun _ _ _ _ _ => (pg_name (i := 4) nd rfl (Or.inl rfl))) (gc_name (by decide)) (fun _ _ _ _ _ => mts_nil) (fun _ _ _ _ _ => (me_callF (ok_is_cells X G c) hr (ma_cons (me_var 4) (ma_cons (me_cst (c_CELLS X G c)) ma_nil))))))))))) (mss_cons (ms_ret me_str) mss_nil) mss_nil) (mss_cons (ms_if (mt_not (mt_val (mbu_all rfl (m_all X G c) (mu_lc [("name", 3)] rfl nd (mi_seq (me_meth (me_var 0) (kls_Draft X G c) (hok_KDraft_spoken X G c) hr (ma_cons (me_var 1) ma_nil))) (blkOk_by (N := ["self", "words", "fits", "name", "text"]) (sc := defScope s_KDraft_fault) (by decide +kernel)) (fun _ _ _ _ _ => (pg_name (i := 3) nd rfl (Or.inl rfl))) (gc_name (by decide)) (fun _ _ _ _ _ => mts_nil) (fun _ _ _ _ _ => (me_inK (units1 hr) (me_var 3) (me_fld (me_var 0) (kls_Draft X G c) (noa_Draft_body_rows X G c)))))))) (mss_cons (ms_ret me_str) mss_nil) mss_nil) (mss_cons (ms_if (mt_val (me_meth (me_var 0) (kls_Draft X G c) (hok_KDraft_is_twice X G c) hr (ma_cons (me_var 1) ma_nil))) (mss_cons (ms_ret me_str) mss_nil) mss_nil) (mss_cons (ms_set 2 nd (me_tabG (q_FITS X G c) (me_ix (me_var 1) me_int) (me_fnH (ok_is_any X G c)))) (mss_cons (ms_if (mt_not (mt_val (me_callV (i := 2) (k := 5) (HasFns.cons (HasFn.mono (ok_is_any X G c)) (HasFns.cons (HasFn.mono (ok_is_ball X G c)) (HasFns.cons (HasFn.mono (ok_is_box X G c)) (HasFns.cons (HasFn.mono (ok_is_half X G c)) (HasFns.cons (HasFn.mono (ok_is_turn X G c)) (HasFns.cons (HasFn.mono (ok_is_window X G c)) HasFns.nil)))))) hr (ma_cons (me_own (mu_lc [("text", 4)] rfl nd (mi_seq (me_callF (ok_numbers_in X G c) hr (ma_cons (me_var 1) ma_nil))) (blkOk_by (N := ["self", "words", "fits", "name", "text"]) (sc := defScope s_KDraft_fault) (by decide +kernel)) (fun _ _ _ _ _ => (pg_name (i := 4) nd rfl (Or.inl rfl))) (gc_name (by decide)) (fun _ _ _ _ _ => mts_nil) (fun _ _ _ _ _ => (me_callF (ok_number_in X G c) hr (ma_cons (me_var 4) ma_nil))))) ma_nil)))) (mss_cons (ms_ret me_str) mss_nil) mss_nil) (mss_cons (ms_if (mt_val (me_meth (me_var 0) (kls_Draft X G c) (hok_KDraft_is_many X G c) hr (ma_cons (me_var 1) ma_nil))) (mss_cons (ms_ret me_str) mss_nil) mss_nil) (mss_cons (ms_ret me_str) mss_nil)))))))))))
theorem hok_KDraft_make : HasMt P w K mg base "Draft" "make" 3 d_KDraft_make := by
  obtain ⟨fd_33, F_33⟩ := c.d.def_ 33 (d := ⟨("Draft", some "make"), "make", "Draft.make", defArgs s_KDraft_make, defBody s_KDraft_make, defScope s_KDraft_make, [], []⟩) rfl
  refine ⟨_, _, fd_33, ["self", "number", "words"], He.glo_ok X G (c.d.fact 47 (f := .glo "Draft") rfl), He.meth_ok (c.d.fact 62 (f := .meth "Draft" "make") rfl), F_33.bindsN (fun _ _ _ _ _ _ us hl => match us, hl with | [_, _, _], _ => rfl), fn_ok F_33 sc_KDraft_make fun cdv A outer s H E hr => ?_⟩
  have nd := sc_KDraft_make.nd
  exact (mss_cons (ms_set 3 nd (me_own (mu_lc [("text", 8)] rfl nd (mi_seq (me_callF (ok_numbers_in X G c) hr (ma_cons (me_var 2) ma_nil))) (blkOk_by (N := ["self", "number", "words", "numbers", "move", "is_mirror", "ways", "places", "text", "at", "name"]) (sc := defScope s_KDraft_make) (by decide +kernel)) (fun _ _ _ _ _ => (pg_name (i := 8) nd rfl (Or.inl rfl))) (gc_name (by decide)) (fun _ _ _ _ _ => mts_nil) (fun _ _ _ _ _ => (me_callF (ok_number_in X G c) hr (ma_cons (me_var 8) ma_nil)))))) (mss_cons (ms_if (mt_eq hr.units (me_ix (me_var 2) me_int) me_str) (mss_cons (ms_set 4 nd (me_if (mt_gt (mb_len (m_len X G c) (ma_cons (me_var 3) ma_nil)) me_int) (mb_tuple (m_tuple X G c) (ma_cons (me_var 3) ma_nil)) (me_cst (c_STILL X G c)))) (mss_cons (ms_set 5 nd (me_and (me_in (mb_len (m_len X G c) (ma_cons (me_var 2) ma_nil)) (me_tup (ma_cons me_int (ma_cons me_int ma_nil)))) (me_one (me_eq hr.units (me_ix (me_var 2) me_int) (me_cst (c_MIRROR X G c)))))) (mss_cons (ms_expr (mm_append (me_fld (me_var 0) (kls_Draft X G c) (noa_Draft_things X G c)) (ma_cons (me_tup (ma_cons (me_meth (me_var 0) (kls_Draft X G c) (hok_KDraft_number_of X G c) hr (ma_cons (me_ix (me_var 2) me_int) ma_nil)) (ma_cons (me_ix (me_var 2) me_int) (ma_cons (me_var 5) (ma_cons (me_var 4) ma_nil))))) ma_nil))) (mss_cons (ms_putK (units1 hr) (me_var 1) (me_fld (me_var 0) (kls_Draft X G c) (noa_Draft_thing_rows X G c)) (me_ix (me_var 2) me_int)) mss_nil)))) (mss_cons (ms_if (mt_eq hr.units (me_ix (me_var 2) me_int) me_str) (mss_cons (ms_expr (mm_append (me_fld (me_var 0) (kls_Draft X G c) (noa_Draft_lamps X G c)) (ma_cons (me_tup (ma_cons (me_ix (me_var 2) me_int) (ma_cons (mb_tuple (m_tuple X G c) (ma_cons (me_var 3) ma_nil)) ma_nil))) ma_nil))) mss_nil) (mss_cons (ms_if (mt_eq hr.units (me_ix (me_var 2) me_int) me_str) (mss_cons (ms_setLc 6 [("at", 9)] rfl nd (mi_seq (me_tup (ma_cons me_int (ma_cons me_int (ma_cons me_int (ma_cons me_int ma_nil)))))) (blkOk_by (N := ["self", "number", "words", "numbers", "move", "is_mirror", "ways", "places", "text", "at", "name"]) (sc := defScope s_KDraft_make) (by decide +kernel)) (fun _ _ _ _ _ => (pg_name (i := 9) nd rfl (Or.inl rfl))) (gc_name (by decide)) (fun _ _ _ _ _ => mts_nil) (fun _ _ _ _ _ => (mb_tuple (m_tuple X G c) (ma_cons (me_sl (me_var 3) (mo_some (me_var 9)) (mo_some (me_add (me_var 9) me_int))) ma_nil)))) (mss_cons (ms_expr (mm_append (me_fld (me_var 0) (kls_Draft X G c) (noa_Draft_looks X G c)) (ma_cons (me_add (me_add (me_tup (ma_cons (me_ix (me_var 2) me_int) ma_nil)) (mb_tuple (m_tuple X G c) (ma_cons (me_var 6) ma_nil))) (me_tup (ma_cons (mb_intT (m_int X G c) (ma_cons (me_ix (me_var 2) me_int) ma_nil)) (ma_cons (mb_intT (m_int X G c) (ma_cons (me_ix (me_var 2) me_int) ma_nil)) ma_nil)))) ma_nil))) mss_nil)) (mss_cons (ms_setLc 7 [("name", 10)] rfl nd (mi_seq (me_meth (me_var 0) (kls_Draft X G c) (hok_KDraft_spoken X G c) hr (ma_cons (me_var 2) ma_nil))) (blkOk_by (N := ["self", "number", "words", "numbers", "move", "is_mirror", "ways", "places", "text", "at", "name"]) (sc := defScope s_KDraft_make) (by decide +kernel)) (fun _ _ _ _ _ => (pg_name (i := 10) nd rfl (Or.inl rfl))) (gc_name (by decide)) (fun _ _ _ _ _ => mts_nil) (fun _ _ _ _ _ => (me_meth (me_var 0) (kls_Draft X G c) (hok_KDraft_number_of X G c) hr (ma_cons (me_var 10) ma_nil)))) (mss_cons (ms_expr (mm_append (me_fld (me_var 0) (kls_Draft X G c) (noa_Draft_bodies X G c)) (ma_cons (me_tup (ma_cons (me_ix (me_var 2) me_int) (ma_cons (me_callF (ok_form_of X G c) hr (ma_cons (me_var 2) (ma_cons (me_var 3) (ma_cons (me_var 7) ma_nil)))) ma_nil))) ma_nil))) (mss_cons (ms_expr (mm_append (me_fld (me_var 0) (kls_Draft X G c) (noa_Draft_leaves X G c)) (ma_cons (me_if (mt_gt (mb_len (m_len X G c) (ma_cons (me_var 7) ma_nil)) me_int) (mbu_sum rfl (m_sum X G c) (mu_lc [("at", 9)] rfl nd (mi_seq (me_var 7)) (blkOk_by (N := ["self", "number", "words", "numbers", "move", "is_mirror", "ways", "places", "text", "at", "name"]) (sc := defScope s_KDraft_make) (by decide +kernel)) (fun _ _ _ _ _ => (pg_name (i := 9) nd rfl (Or.inl rfl))) (gc_name (by decide)) (fun _ _ _ _ _ => mts_nil) (fun _ _ _ _ _ => (me_ix (me_fld (me_var 0) (kls_Draft X G c) (noa_Draft_leaves X G c)) (me_var 9))))) me_int) ma_nil))) (mss_cons (ms_putK (units1 hr) (me_var 1) (me_fld (me_var 0) (kls_Draft X G c) (noa_Draft_body_rows X G c)) (me_ix (me_var 2) me_int)) mss_nil))))) mss_nil)) mss_nil)) mss_nil))
theorem hok_KDraft_take : HasMt P w K mg base "Draft" "take" 7 d_KDraft_take := by
  obtain ⟨fd_34, F_34⟩ := c.d.def_ 34 (d := ⟨("Draft", some "take"), "take", "Draft.take", defArgs s_KDraft_take, defBody s_KDraft_take, defScope s_KDraft_take, [], []⟩) rfl
  refine ⟨_, _, fd_34, ["self", "number", "row"], He.glo_ok X G (c.d.fact 47 (f := .glo "Draft") rfl), He.meth_ok (c.d.fact 64 (f := .meth "Draft" "take") rfl), F_34.bindsN (fun _ _ _ _ _ _ us hl => match us, hl with | [_, _, _], _ => rfl), fn_ok F_34 sc_KDraft_take fun cdv A outer s H E hr => ?_⟩
  have nd := sc_KDraft_take.nd
  exact (mss_cons (ms_if (mt_bool (mw_or (mt_ge (me_var 1) (me_cst (c_LINES X G c))) (mw_or1 (mt_not (mt_val (me_callF (ok_is_short X G c) hr (ma_cons (me_var 2) ma_nil))))))) (mss_cons (ms_expr (mm_append (me_fld (me_var 0) (kls_Draft X G c) (noa_Draft_wrongs X G c)) (ma_cons (me_tup (ma_cons (me_var 1) (ma_cons me_str ma_nil))) ma_nil))) (mss_cons ms_retN mss_nil)) mss_nil) (mss_cons (ms_set 3 nd (me_callF (ok_words_of X G c) hr (ma_cons (me_var 2) ma_nil))) (mss_cons (ms_if (mt_gt (mb_len (m_len X G c) (ma_cons (me_var 3) ma_nil)) me_int) (mss_cons (ms_set 4 nd (me_meth (me_var 0) (kls_Draft X G c) (hok_KDraft_fault X G c) hr (ma_cons (me_var 3) ma_nil))) (mss_cons (ms_if (mt_ne hr.units (me_var 4) me_str) (mss_cons (ms_expr (mm_append (me_fld (me_var 0) (kls_Draft X G c) (noa_Draft_wrongs X G c)) (ma_cons (me_tup (ma_cons (me_var 1) (ma_cons (me_var 4) ma_nil))) ma_nil))) mss_nil) (mss_cons (ms_expr (me_meth (me_var 0) (kls_Draft X G c) (hok_KDraft_make X G c) hr (ma_cons (me_var 1) (ma_cons (me_var 3) ma_nil)))) mss_nil)) mss_nil)) mss_nil) mss_nil)))
theorem ok_drafted : HasFn P w K mg base "drafted" 8 d_drafted := by
  obtain ⟨fd_36, F_36⟩ := c.d.def_ 36 (d := ⟨("drafted", none), "drafted", "drafted", defArgs s_drafted, defBody s_drafted, defScope s_drafted, [], []⟩) rfl
  refine ⟨_, fd_36, ["text"], He.glo_ok X G (c.d.fact 27 (f := .glo "drafted") rfl), F_36.kp, F_36.bindsN (fun _ _ _ _ _ _ us hl => match us, hl with | [_], _ => rfl), fn_ok F_36 sc_drafted fun cdv A outer s H E hr => ?_⟩
  have nd := sc_drafted.nd
  exact (mss_cons (ms_set 1 nd (me_make0 ((hok_KDraft___init__ X G c)) hr)) (mss_cons (ms_for PassesOwn.never rfl (mi_enumA (by rfl) (m_enumerate X G c) (ma_cons (mm_split (me_var 0) me_str) ma_nil)) (mg_tup rfl (mgs_cons (mg_name 2 nd) (mgs_cons (mg_name 3 nd) mgs_nil))) (mss_cons (ms_expr (me_meth (me_var 1) (kls_Draft X G c) (hok_KDraft_take X G c) hr (ma_cons (me_var 2) (ma_cons (me_var 3) ma_nil)))) mss_nil)) (mss_cons (ms_ret (me_var 1)) mss_nil)))
theorem ok_faults : HasFn P w K mg base "faults" 9 d_faults := by
  obtain ⟨fd_37, F_37⟩ := c.d.def_ 37 (d := ⟨("faults", none), "faults", "faults", defArgs s_faults, defBody s_faults, defScope s_faults, [], []⟩) rfl
  refine ⟨_, fd_37, ["text"], He.glo_ok X G (c.d.fact 28 (f := .glo "faults") rfl), F_37.kp, F_37.bindsN (fun _ _ _ _ _ _ us hl => match us, hl with | [_], _ => rfl), fn_ok F_37 sc_faults fun cdv A outer s H E hr => ?_⟩
  have nd := sc_faults.nd
  exact (mss_cons (ms_if (mt_not (mt_val (mb_isi (m_isinstance X G c) (ma_cons (me_var 0) (ma_cons (me_ty (by rfl) (m_str X G c) (by decide +kernel)) ma_nil))))) (mss_cons (ms_ret (me_tup (ma_cons (me_tup (ma_cons me_int (ma_cons me_str ma_nil))) ma_nil))) mss_nil) mss_nil) (mss_cons (ms_ret (mb_tuple (m_tuple X G c) (ma_cons (me_fld (me_callF (ok_drafted X G c) hr (ma_cons (me_var 0) ma_nil)) (kls_Draft X G c) (noa_Draft_wrongs X G c)) ma_nil))) mss_nil))
theorem ok__law_deck : HasFn P w K mg base "_law_deck" 1 d__law_deck := by
  obtain ⟨fd_38, F_38⟩ := c.d.def_ 38 (d := ⟨("_law_deck", none), "_law_deck", "_law_deck", defArgs s__law_deck, defBody s__law_deck, defScope s__law_deck, [], []⟩) rfl
  refine ⟨_, fd_38, ["_law_script"], He.glo_ok X G (c.d.fact 29 (f := .glo "_law_deck") rfl), F_38.kp, F_38.bindsN (fun _ _ _ _ _ _ us hl => match us, hl with | [_], _ => rfl), fn_ok F_38 sc__law_deck fun cdv A outer s H E hr => ?_⟩
  have nd := sc__law_deck.nd
  exact (mss_cons (ms_set 1 nd (me_add (me_own (mu_list (m_list X G c) (me_sl (me_var 0) mo_none (mo_some me_int)))) (me_mul (me_own (mu_lst (ma_cons me_int ma_nil))) (mb_int (m_int X G c) (ma_cons (me_eq hr.units (mb_len (m_len X G c) (ma_cons (me_var 0) ma_nil)) me_int) ma_nil))))) (mss_cons (ms_ret (me_own (mu_lst (ma_cons (me_var 1) (ma_cons me_int (ma_cons (me_own (mu_lc [("_law_one", 2)] rfl nd (mi_seq (me_var 1)) (blkOk_by (N := ["_law_script", "_law_cells", "_law_one"]) (sc := defScope s__law_deck) (by decide +kernel)) (fun _ _ _ _ _ => (pg_name (i := 2) nd rfl (Or.inl rfl))) (gc_name (by decide)) (fun _ _ _ _ _ => mts_nil) (fun _ _ _ _ _ => (me_mulB (me_var 2) (mb_int (m_int X G c) (ma_cons (me_ge (me_var 2) (me_pow me_int me_int)) ma_nil)))))) ma_nil)))))) mss_nil))
theorem ok__law_next : HasFn P w K mg base "_law_next" 1 d__law_next := by
  obtain ⟨fd_39, F_39⟩ := c.d.def_ 39 (d := ⟨("_law_next", none), "_law_next", "_law_next", defArgs s__law_next, defBody s__law_next, defScope s__law_next, [], []⟩) rfl
  refine ⟨_, fd_39, ["_law_deck_here", "_law_many"], He.glo_ok X G (c.d.fact 30 (f := .glo "_law_next") rfl), F_39.kp, F_39.bindsN (fun _ _ _ _ _ _ us hl => match us, hl with | [_, _], _ => rfl), fn_ok F_39 sc__law_next fun cdv A outer s H E hr => ?_⟩
  have nd := sc__law_next.nd
  exact (mss_cons (ms_asg (me_var 0) (mg_tupL rfl (mgs_cons (mg_name 2 nd) (mgs_cons (mg_name 3 nd) (mgs_cons (mg_name 4 nd) mgs_nil))))) (mss_cons (ms_set 5 nd (me_mod (me_var 3) (mb_len (m_len X G c) (ma_cons (me_var 2) ma_nil)))) (mss_cons (ms_asg (me_add (me_var 3) me_int) (mg_sub (me_var 0) me_int)) (mss_cons (ms_if (mt_gt (me_ix (me_var 4) (me_var 5)) me_int) (mss_cons (ms_set 6 nd (me_mod (me_ix (me_var 4) (me_var 5)) (me_var 1))) (mss_cons (ms_asg (me_fdiv (me_ix (me_var 4) (me_var 5)) (me_var 1)) (mg_sub (me_var 4) (me_var 5))) (mss_cons (ms_ret (me_var 6)) mss_nil))) mss_nil) (mss_cons (ms_set 7 nd (me_mod (me_add (me_add (me_ix (me_var 2) (me_var 5)) (me_mul me_int (me_var 3))) me_int) me_int)) (mss_cons (ms_set 7 nd (me_mod (me_pow (me_var 7) me_int) me_int)) (mss_cons (ms_set 7 nd (me_mod (me_pow (me_add (me_add (me_var 7) (me_mul me_int (me_mod (me_var 3) me_int))) me_int) me_int) me_int)) (mss_cons (ms_ret (me_mod (me_fdiv (me_var 7) me_int) (me_var 1))) mss_nil))))))))
theorem ok__law_line : HasFn P w K mg base "_law_line" 2 d__law_line := by
  obtain ⟨fd_41, F_41⟩ := c.d.def_ 41 (d := ⟨("_law_line", none), "_law_line", "_law_line", defArgs s__law_line, defBody s__law_line, defScope s__law_line, [], []⟩) rfl
  refine ⟨_, fd_41, ["_law_deck_here"], He.glo_ok X G (c.d.fact 32 (f := .glo "_law_line") rfl), F_41.kp, F_41.bindsN (fun _ _ _ _ _ _ us hl => match us, hl with | [_], _ => rfl), fn_ok F_41 sc__law_line fun cdv A outer s H E hr => ?_⟩
  have nd := sc__law_line.nd
  exact (mss_cons (ms_set 1 nd (me_callF (ok__law_next X G c) hr (ma_cons (me_var 0) (ma_cons me_int ma_nil)))) (mss_cons (ms_set 2 nd (me_add me_int (me_callF (ok__law_next X G c) hr (ma_cons (me_var 0) (ma_cons me_int ma_nil))))) (mss_cons (ms_if (mt_eq hr.units (me_var 1) me_int) (mss_cons (ms_ret (me_tup (ma_cons (me_els (me_mulS me_str (me_var 2)) (me_mulT me_str (me_var 2))) (ma_cons (me_gt (me_var 2) me_int) ma_nil)))) mss_nil) mss_nil) (mss_cons (ms_if (mt_eq hr.units (me_var 1) me_int) (mss_cons (ms_ret (me_tup (ma_cons (me_add me_str (me_els (me_mulS me_str (me_sub (me_var 2) me_int)) (me_mulT me_str (me_sub (me_var 2) me_int)))) (ma_cons (me_gt (me_var 2) me_int) ma_nil)))) mss_nil) mss_nil) (mss_cons (ms_if (mt_eq hr.units (me_var 1) me_int) (mss_cons (ms_ret (me_tup (ma_cons (me_add me_str (me_els (me_mulS me_str (me_sub (me_var 2) me_int)) (me_mulT me_str (me_sub (me_var 2) me_int)))) (ma_cons (me_gt (me_var 2) me_int) ma_nil)))) mss_nil) mss_nil) (mss_cons (ms_if (mt_eq hr.units (me_var 1) me_int) (mss_cons (ms_ret (me_tup (ma_cons me_str (ma_cons me_bl ma_nil)))) mss_nil) mss_nil) (mss_cons (ms_if (mt_eq hr.units (me_var 1) me_int) (mss_cons (ms_ret (me_tup (ma_cons (me_add me_str me_str) (ma_cons me_bl ma_nil)))) mss_nil) mss_nil) (mss_cons (ms_ret (me_tup (ma_cons (me_uix (mu_lst (ma_cons me_str (ma_cons me_str (ma_cons me_str (ma_cons me_str (ma_cons me_str ma_nil)))))) (me_callF (ok__law_next X G c) hr (ma_cons (me_var 0) (ma_cons me_int ma_nil)))) (ma_cons me_bl ma_nil)))) mss_nil))))))))
theorem fnl_law {f : Addr} {fd : FuncData} (F : FunD K "law" "law" (defArgs s_law) (defBody s_law) (defScope s_law) [] [] f fd) : FnOk P w K mg base CX0 10 f fd ["_law_script"] (spD ⟨K, mg⟩ d_law) := by
  refine fn_ok F sc_law fun cdv A outer s H E hr => ?_
  have nd := sc_law.nd
  exact (mss_cons (ms_set 1 nd (me_callF (ok__law_deck X G c) hr (ma_cons (me_var 0) ma_nil))) (mss_cons (ms_set 2 nd (me_add (me_pow me_int me_int) (me_callF (ok__law_next X G c) hr (ma_cons (me_var 1) (ma_cons (me_pow me_int me_int) ma_nil))))) (mss_cons (ms_set 3 nd (me_own (mu_lst (ma_cons me_non (ma_cons me_bl (ma_cons me_int (ma_cons (me_var 2) (ma_cons (me_tup ma_nil) (ma_cons (me_tup (ma_cons me_str ma_nil)) (ma_cons (me_own (mu_lst ma_nil)) (ma_cons (me_own (mu_lst (ma_cons me_str ma_nil))) (ma_cons me_dk0 (ma_cons (me_dk1 me_str me_str) (ma_cons (me_tup (ma_cons me_str ma_nil)) (ma_cons (me_neg me_int) ma_nil))))))))))))))) (mss_cons (ms_if (mt_bool (mw_or (mt_ne hr.units (me_callF (ok_faults X G c) hr (ma_cons (me_ix (me_var 3) (me_callF (ok__law_next X G c) hr (ma_cons (me_var 1) (ma_cons me_int ma_nil)))) ma_nil)) (me_tup (ma_cons (me_tup (ma_cons me_int (ma_cons me_str ma_nil))) ma_nil))) (mw_or1 (mt_ne hr.units (me_callF (ok_faults X G c) hr (ma_cons me_str ma_nil)) (me_tup ma_nil))))) (mss_cons (ms_ret me_bl) mss_nil) mss_nil) (mss_cons (ms_set 4 nd (me_own (mu_lst ma_nil))) (mss_cons (ms_set 5 nd (me_own (mu_lst ma_nil))) (mss_cons (ms_set 6 nd me_int) (mss_cons (ms_for PassesOwn.never rfl (mi_range1 (by rfl) (m_range X G c) (me_add me_int (me_callF (ok__law_next X G c) hr (ma_cons (me_var 1) (ma_cons me_int ma_nil))))) (mg_name 7 nd) (mss_cons (ms_asg (me_callF (ok__law_line X G c) hr (ma_cons (me_var 1) ma_nil)) (mg_tup rfl (mgs_cons (mg_name 8 nd) (mgs_cons (mg_name 9 nd) mgs_nil)))) (mss_cons (ms_if1 (mt1_cmp (op_eqD hr.units) imp_eq (me_slS (me_var 8) mo_none (mo_some me_int)) (nomark _)) (msst_cons (MST.of (ms_set 6 nd (me_add (me_var 6) me_int))) (msst_cons (mst_if (mt_gt (me_var 6) me_int) (msst_cons (mst_set 8 nd (met_repl (me_var 8))) msst_nil) msst_nil) msst_nil)) msst_nil) (mss_cons (ms_if (mt_bool (mw_or (mt_val (me_var 9)) (mw_or1 (mt_gt (me_var 7) me_int)))) (mss_cons (ms_expr (mm_append (me_var 5) (ma_cons (me_tup (ma_cons (me_var 7) (ma_cons me_str ma_nil))) ma_nil))) mss_nil) mss_nil) (mss_cons (ms_expr (mm_append (me_var 4) (ma_cons (me_var 8) ma_nil))) mss_nil))))) (mss_cons (ms_ret (me_and (me_eq hr.units (me_callF (ok_faults X G c) hr (ma_cons (mm_join me_str (me_var 4)) ma_nil)) (mb_tuple (m_tuple X G c) (ma_cons (me_var 5) ma_nil))) (me_one (me_eq hr.units (me_callF (ok_faults X G c) hr (ma_cons (mm_join me_str (me_var 4)) ma_nil)) (mb_tuple (m_tuple X G c) (ma_cons (me_var 5) ma_nil)))))) mss_nil)))))))))
end
end Cl

namespace ML
open PySem PySem.Spec PyProof.Rows L2
/-! ### the head's facts read off the last N objects -/
def adr (N n : Nat) : List Addr := mainGlobals :: (List.range N).map fun i => n - 1 - i
def obsZ (N : Nat) (fa : List He.Fa) (fn : List He.DefD) (cs : List (Str × D)) (ts : List TabD) (g : Addr → Option Obj) (n : Nat) : AlY := obsY fa fn cs ts (He.frG g (adr N n))
/-! ### the head's run, looked at part by part -/
section
variable {fa fa1 fa2 : List He.Fa} {fn fn1 fn2 : List He.DefD} {cs cs1 cs2 : List (Str × D)} {ts ts1 ts2 : List TabD} {K : PySem.W.Frag} {w : World} {N : Nat} {E : Option PySem.W.SharedT}
theorem obsY_app (h1 : obsY fa1 fn1 cs1 ts1 K = valY fn1 ts1 w) (h2 : obsY fa2 fn2 cs2 ts2 K = valY fn2 ts2 w) : obsY (fa1 ++ fa2) (fn1 ++ fn2) (cs1 ++ cs2) (ts1 ++ ts2) K = valY (fn1 ++ fn2) (ts1 ++ ts2) w := by
  unfold obsY obsX He.obsD valY He.valD at *
  simp only [Prod.mk.injEq, Bool.and_eq_true] at h1 h2
  obtain ⟨⟨⟨⟨⟨a1, a2⟩, a3⟩, a4⟩, a5⟩, a6⟩ := h1
  obtain ⟨⟨⟨⟨⟨b1, b2⟩, b3⟩, b4⟩, b5⟩, b6⟩ := h2
  simp only [List.all_append, List.map_append, a1, a2, a3, a4, a5, a6, b1, b2, b3, b4, b5, b6, Bool.and_self]
def Chunk (N : Nat) (E : Option PySem.W.SharedT) (fa : List He.Fa) (fn : List He.DefD) (cs : List (Str × D)) (ts : List TabD) (w : World) : Prop := E.map (fun s => obsZ N fa fn cs ts (HandSHeadRun.getT s) s.n) = some (valY fn ts w)
theorem Chunk.cut (a b c d : Nat) (h1 : Chunk N E (fa.take a) (fn.take b) (cs.take c) (ts.take d) w) (h2 : Chunk N E (fa.drop a) (fn.drop b) (cs.drop c) (ts.drop d) w) : Chunk N E fa fn cs ts w := by
  unfold Chunk at *
  obtain ⟨s, rfl, k1⟩ := Option.map_eq_some_iff.mp h1
  have k2 := Option.some.inj h2
  have k := obsY_app (show obsY (fa.take a) (fn.take b) (cs.take c) (ts.take d) _ = valY _ _ w from k1) (show obsY (fa.drop a) (fn.drop b) (cs.drop c) (ts.drop d) _ = valY _ _ w from k2)
  rw [List.take_append_drop, List.take_append_drop, List.take_append_drop, List.take_append_drop] at k
  exact congrArg some k
end
end ML

namespace ML
open PySem PySem.Spec PyProof.Rows L2
/-! ### the head's facts, with tables of any data -/
def obsZQ (N : Nat) (fa : List He.Fa) (fn : List He.DefD) (cs : List (Str × D)) (ts : List TabD) (tq : List TabQ) (g : Addr → Option Obj) (n : Nat) : AlQ := obsQ fa fn cs ts tq (He.frG g (adr N n))
def hookZQ (N : Nat) (fa : List He.Fa) (fn : List He.DefD) (cs : List (Str × D)) (ts : List TabD) (tq : List TabQ) : PySem.W.Hook where
  α := AlQ
  obs := fun s => obsZQ N fa fn cs ts tq s.heap.get? s.heap.objs.size
  val := fun w => valQ fn ts tq w
  says := fun w h => ∃ K : PySem.W.Frag, K.In h ∧ SaysQ fa fn cs ts tq w K
  of := fun _ _ e => ⟨_, He.frG_in, e⟩
  keeps := fun _ _ _ ⟨K, hK, c⟩ k => ⟨K, PySem.W.Frag.In.keeps hK k, c⟩
theorem obsZQ_eq {N : Nat} {fa : List He.Fa} {fn : List He.DefD} {cs : List (Str × D)} {ts : List TabD} {tq : List TabQ} (s : PySem.W.SharedT) : obsZQ N fa fn cs ts tq (HandSHeadRun.getT s) s.n = (hookZQ N fa fn cs ts tq).obs s.abs := by
  have e : HandSHeadRun.getT s = s.abs.heap.get? := funext fun a => HandSHeadRun.getT_eq s a
  have z : s.abs.heap.objs.size = s.n := PySem.W.absHeap_size _ _ _
  show _ = obsZQ N fa fn cs ts tq s.abs.heap.get? s.abs.heap.objs.size
  rw [e, z]
end ML

namespace Cl
open PySem PySem.Spec PyProof.Rows L2 ML
abbrev R : PySem.W.OpenRow := PySem.W.OpenLaw.row PySem.Challenge.rw_scenetongue_k15_too_long
abbrev hk : PySem.W.Hook := hookZQ 2000 fa fn cs ts tq
noncomputable def ob (s : PySem.W.SharedT) : AlQ := obsZQ 2000 fa fn cs ts tq (HandSHeadRun.getT s) s.n
theorem ob_eq (s : PySem.W.SharedT) : ob s = hk.obs s.abs := obsZQ_eq s
def names : List PySem.Str := (["_wall", "LINES", "SIGNS", "FIGURES", "BODIES", "THINGS", "LAMPS", "LOOKS", "LEAVES", "CELLS", "NOUGHT", "common_part", "frac", "plus", "minus", "times", "sign", "dot", "LETTERS", "DIGITS", "NAME", "NOTE", "AXES", "COUNTS", "NAMES", "NUMBERS", "MIRROR", "MOVE", "is_name", "whole_in"] : List PySem.Str) ++ (["common", "number_in", "words_of", "is_short", "is_shaped", "names_in", "numbers_in", "is_cells", "ONE", "STILL", "PAIRS", "PLACED", "between", "across", "is_box", "is_ball", "is_half", "is_turn", "is_window", "is_any", "FITS", "form_of", "Draft", "drafted", "faults", "_law_deck", "_law_next", "_law_whole", "_law_line"] : List PySem.Str)
theorem run_a (w : World) : HandSHeadRun.RunEq R (PySem.W.view R.prog [63]) hk ob 4000 names (w.withFollow "special-get-raises" false) := by
  intro os
  kernel_rfl
theorem run_b (w : World) : HandSHeadRun.RunEq R (PySem.W.view R.prog [63]) hk ob 4000 names (w.withFollow "special-get-raises" true) := by
  intro os
  kernel_rfl
theorem run (w : World) : HandSHeadRun.RunEq R (PySem.W.view R.prog [63]) hk ob 4000 names w := PySem.W.byRow2 (P := fun w => HandSHeadRun.RunEq R (PySem.W.view R.prog [63]) hk ob 4000 names w) "special-get-raises" run_a run_b w
end Cl


namespace ML
open PySem PySem.Spec PyProof.Rows L2
/-! ### reckoning with the functions on data -/
section
variable {env : En} {S S' : Sto} {f g : Den} {t u : TDen} {a : ADen} {d : D} {b c : SDen} {op : Op2} {o1 : Op1} {F : Fn} {gg : GDen}
@[simp] theorem x_var {i : Nat} : eVar i env S = match env[i]? with
  | some (some d) => some (d, S)
  | _ => none := rfl
@[simp] theorem x_c : eC d env S = some (d, S) := rfl
@[simp] theorem x_op : eOp op f g env S = (f env S).bind fun p => (g env p.2).bind fun q => op p.1 q.1 q.2 := rfl
@[simp] theorem x_un : eUn o1 f env S = (f env S).bind fun p => o1 p.1 p.2 := rfl
@[simp] theorem x_anil : aNil env S = some ([], S) := rfl
@[simp] theorem x_acons : aCons f a env S = (f env S).bind fun p => (a env p.2).bind fun q => some (p.1 :: q.1, q.2) := rfl
theorem line_pos {n : Nat} (h : n ≤ 1000) : n ≤ sizeLine := Nat.le_of_lt (small1000 h)
@[simp] theorem sl_eq : sizeLine = 16777216 := sizeLine_eq
@[simp] theorem x_tup : eTup a env S = (a env S).bind fun p => if p.1.length ≤ sizeLine then some (.tup p.1, p.2) else none := rfl
@[simp] theorem x_call : eCall F a env S = (a env S).bind fun p => F p.1 p.2 := rfl
@[simp] theorem x_if : eIf t f g env S = (t env S).bind fun p => if p.1 = true then f env p.2 else g env p.2 := rfl
@[simp] theorem x_and : eAnd f g env S = (f env S).bind fun p => (truD p.1 p.2).bind fun k => if k = true then g env p.2 else some p := rfl
@[simp] theorem x_or : eOr f g env S = (f env S).bind fun p => (truD p.1 p.2).bind fun k => if k = true then some p else g env p.2 := rfl
@[simp] theorem x_not : eNot f env S = (f env S).bind fun p => (truD p.1 p.2).bind fun k => some (.bl (!k), p.2) := rfl
@[simp] theorem x_tru : tTru f env S = (f env S).bind fun p => (truD p.1 p.2).map fun k => (k, p.2) := rfl
@[simp] theorem x_asB : asB f env S = (f env S).bind fun p => match p.1 with
  | .bl b => some (b, p.2)
  | _ => none := rfl
@[simp] theorem x_tand : ML.tAnd t u env S = (t env S).bind fun p => if p.1 = true then u env p.2 else some (false, p.2) := rfl
@[simp] theorem x_tor : ML.tOr t u env S = (t env S).bind fun p => if p.1 = true then some (true, p.2) else u env p.2 := rfl
@[simp] theorem x_tnot : ML.tNot t env S = (t env S).bind fun p => some (!p.1, p.2) := rfl
@[simp] theorem x_own {fu : ADen} : eOwn fu env S = (fu env S).bind fun p => some (.loc p.2.length, p.2 ++ [.lst p.1]) := rfl
@[simp] theorem x_u {fu : ADen} : eU F fu env S = (fu env S).bind fun p => F p.1 p.2 := rfl
@[simp] theorem x_ulst {fu : ADen} : uLst fu env S = (fu env S).bind fun p => if p.1.length ≤ sizeLine then some p else none := rfl
@[simp] theorem x_uix {fu : ADen} : eUIx fu f env S = (fu env S).bind fun p => (f env p.2).bind fun q => match q.1 with
  | .int i => (atI p.1 i).map fun d => (d, q.2)
  | _ => none := rfl
@[simp] theorem x_snil : sNil env S = some (.nx, env, S) := rfl
@[simp] theorem x_scons : sCons b c env S = (b env S).bind fun p => match p.1 with
  | .nx => c p.2.1 p.2.2
  | _ => some p := rfl
@[simp] theorem x_asg : sAsg f gg env S = (f env S).bind fun p => (gg p.1 env p.2).bind fun q => some (.nx, q.1, q.2) := rfl
@[simp] theorem x_par {i j : Nat} {fu : ADen} : sPar i j fu env S = (fu env S).bind fun p => match p.1 with
  | [a, b] => some (.nx, (env.set i (some a)).set j (some b), p.2)
  | _ => none := rfl
@[simp] theorem x_par3 {i j l : Nat} {fu : ADen} : sPar3 i j l fu env S = (fu env S).bind fun p => match p.1 with
  | [a, b, c] => some (.nx, ((env.set i (some a)).set j (some b)).set l (some c), p.2)
  | _ => none := rfl
@[simp] theorem x_ret : sRet f env S = (f env S).bind fun p => some (.rt p.1, env, p.2) := rfl
@[simp] theorem x_retN : sRetN env S = some (.rt .non, env, S) := rfl
@[simp] theorem x_expr : sExpr f env S = (f env S).bind fun p => some (.nx, env, p.2) := rfl
@[simp] theorem x_sif : sIf t b c env S = (t env S).bind fun p => if p.1 = true then b env p.2 else c env p.2 := rfl
@[simp] theorem x_bk : sBk env S = some (.bk, env, S) := rfl
@[simp] theorem x_ct : sCt env S = some (.ct, env, S) := rfl
@[simp] theorem x_asgU {fu : ADen} {i : Nat} : sAsgU fu i env S = (fu env S).bind fun p => some (.nx, env.set i (some (.loc p.2.length)), p.2 ++ [.lst p.1]) := rfl
@[simp] theorem x_gname {i : Nat} {env : En} : ML.gName i d env S = some (env.set i (some d), S) := rfl
@[simp] theorem x_gnil {env : En} : ML.gNil [] env S = some (env, S) := rfl
@[simp] theorem x_gcons {env : En} {gs : GsDen} {r : List D} : ML.gCons gg gs (d :: r) env S = (gg d env S).bind fun p => gs r p.1 p.2 := rfl
@[simp] theorem x_gtup {n : Nat} {env : En} {gs : GsDen} {r : List D} : ML.gTup n gs (.tup r) env S = if r.length = n then gs r env S else none := rfl
@[simp] theorem x_tyes : ML.tYes env S = some (true, S) := rfl
/-! operators -/
@[simp] theorem x_add {i j : Int} : gAdd (.int i) (.int j) S = some (.int (i + j), S) := rfl
@[simp] theorem x_addI {i j : Int} : gAddI (.int i) (.int j) S = some (.int (i + j), S) := rfl
@[simp] theorem x_sub {i j : Int} : gSub (.int i) (.int j) S = some (.int (i - j), S) := rfl
@[simp] theorem x_neg {i : Int} : gNeg (.int i) S = some (.int (-i), S) := rfl
theorem x_mul {i j : Int} (h : wideM i j) : gMul (.int i) (.int j) S = some (.int (i * j), S) := if_pos h
theorem x_fdiv {i j : Int} (h : wideD j) : gFdiv (.int i) (.int j) S = some (.int (i.fdiv j), S) := if_pos h
theorem x_mod {i j : Int} (h : j ≠ 0) : gMod (.int i) (.int j) S = some (.int (i.fmod j), S) := if_pos h
theorem x_pow {i j : Int} (h : 0 ≤ j ∧ j ≤ 1000000 ∧ i.natAbs < 2 ^ 64) : gPow (.int i) (.int j) S = some (.int (i ^ j.toNat), S) := if_pos h
@[simp] theorem x_cmp {p : Int → Int → Bool} {i j : Int} : gCmp p (.int i) (.int j) S = some (.bl (p i j), S) := rfl
@[simp] theorem x_trub {k : Bool} : truD (.bl k) S = some k := rfl
@[simp] theorem x_trui {i : Int} : truD (.int i) S = some (i != 0) := rfl
@[simp] theorem x_trun : truD .non S = some false := rfl
@[simp] theorem x_isN : cIs .non .non S = some (.bl true, S) := rfl
@[simp] theorem x_isNt {xs : List D} : cIs (.tup xs) .non S = some (.bl false, S) := rfl
@[simp] theorem x_isNi {i : Int} : cIs (.int i) .non S = some (.bl false, S) := rfl
@[simp] theorem x_isnN : cIsNot .non .non S = some (.bl false, S) := rfl
@[simp] theorem x_isnNt {xs : List D} : cIsNot (.tup xs) .non S = some (.bl true, S) := rfl
@[simp] theorem x_isnNi {i : Int} : cIsNot (.int i) .non S = some (.bl true, S) := rfl
@[simp] theorem x_abs {i : Int} : bAbs [.int i] S = some (.int (i.natAbs : Int), S) := by
  show some (D.int (if i < 0 then -i else i), S) = _
  rw [show (if i < 0 then -i else i) = (i.natAbs : Int) by split <;> omega]
@[simp] theorem x_intb {k : Bool} : bInt [.bl k] S = some (.int (if k = true then 1 else 0), S) := rfl
@[simp] theorem x_inti {i : Int} : bInt [.int i] S = some (.int i, S) := rfl
@[simp] theorem x_max {i j : Int} : bMax [.int i, .int j] S = some (.int (max i j), S) := by
  show some (D.int (if j > i then j else i), S) = _
  rw [show (if j > i then j else i) = max i j by split <;> omega]
@[simp] theorem x_min {i j : Int} : bMin [.int i, .int j] S = some (.int (min i j), S) := by
  show some (D.int (if j < i then j else i), S) = _
  rw [show (if j < i then j else i) = min i j by split <;> omega]
@[simp] theorem x_lent {xs : List D} : bLen [.tup xs] S = some (.int xs.length, S) := rfl
@[simp] theorem x_tupU {xs : List D} : gTupU xs S = some (.tup xs, S) := rfl
@[simp] theorem x_lenU {xs : List D} : gLenU xs S = some (.int xs.length, S) := rfl
@[simp] theorem x_ixt {xs : List D} {i : Int} : gIx (.tup xs) (.int i) S = (atI xs i).map fun d => (d, S) := rfl
theorem gc_self (d : D) (S : Sto) : gc S.length d S = (d, S) := by
  unfold gc
  split <;> simp
theorem atI_n {α : Type} (xs : List α) (i : Nat) : atI xs (i : Int) = xs[i]? := by
  unfold atI ixN
  rw [if_pos (by omega)]
  by_cases h : i < xs.length
  · rw [if_pos (by omega)]; simp
  · rw [if_neg (by omega)]; simp; omega
@[simp] theorem atI_0 {α : Type} {x : α} {xs : List α} : atI (x :: xs) 0 = some x := atI_n (x :: xs) 0
@[simp] theorem atI_1 {α : Type} {x y : α} {xs : List α} : atI (x :: y :: xs) 1 = some y := atI_n (x :: y :: xs) 1
@[simp] theorem atI_2 {α : Type} {x y z : α} {xs : List α} : atI (x :: y :: z :: xs) 2 = some z := atI_n (x :: y :: z :: xs) 2
@[simp] theorem atI_3 {α : Type} {x y z u : α} {xs : List α} : atI (x :: y :: z :: u :: xs) 3 = some u := atI_n (x :: y :: z :: u :: xs) 3
/-! == -/
@[simp] theorem sh_int {i : Int} : SeqAt.shaped (.int i) = true := rfl
@[simp] theorem sh_bl {i : Bool} : SeqAt.shaped (.bool i) = true := rfl
@[simp] theorem sh_non : SeqAt.shaped .none = true := rfl
@[simp] theorem x_eqi {i j : Int} : cEq (.int i) (.int j) S = some (.bl (decide (i = j)), S) := by
  show (eqP S (.int i) (.int j)).map _ = _
  simp only [eqP, toPS, toP, Option.bind_some, sh_int, Bool.and_self, if_true, Option.map_some, PyData.eqv]
  rw [Bool.beq_eq_decide_eq]
@[simp] theorem x_nei {i j : Int} : cNe (.int i) (.int j) S = some (.bl (!decide (i = j)), S) := by
  show (eqP S (.int i) (.int j)).map _ = _
  simp only [eqP, toPS, toP, Option.bind_some, sh_int, Bool.and_self, if_true, Option.map_some, PyData.eqv]
  rw [Bool.beq_eq_decide_eq]
end
theorem srcOk_nil {S : Sto} : srcOk [] S := fun _ h => nomatch h
/-- a call, from the slots at its begin -/
theorem mk_ret {np ns : Nat} {body : SDen} {ds : List D} {S S' : Sto} {d : D} {env' : En} (e0 : En) (h : body e0 S = some (.rt d, env', S')) (hl : ds.length = np := by rfl) (he : ds.map some ++ List.replicate (ns - np) none = e0 := by rfl) : mkFn np ns body ds S = some (gc S.length d S') := by
  unfold mkFn
  rw [if_pos hl, he, h]
  rfl
theorem mk_same {np ns : Nat} {body : SDen} {ds : List D} {S : Sto} {d : D} {env' : En} (e0 : En) (h : body e0 S = some (.rt d, env', S)) (hl : ds.length = np := by rfl) (he : ds.map some ++ List.replicate (ns - np) none = e0 := by rfl) : mkFn np ns body ds S = some (d, S) := by
  rw [mk_ret e0 h hl he, gc_self]
/-! ### bounds -/
theorem log2_lt {n k : Nat} (h : n < 2 ^ k) (hk : 0 < k) : n.log2 < k := PySem.Flt.log2_lt_of hk h
theorem wideM_of {i j : Int} {a b : Nat} (ha : i.natAbs < 2 ^ a) (hb : j.natAbs < 2 ^ b) (h0 : 0 < a := by decide) (h1 : 0 < b := by decide) (h : a + b ≤ 1000000 := by decide) : wideM i j := wide_mul ha hb h0 h1 h
theorem mul_lt {i j : Int} {a b : Nat} (ha : i.natAbs < 2 ^ a) (hb : j.natAbs < 2 ^ b) : (i * j).natAbs < 2 ^ (a + b) := wide_lt ha hb
theorem add_lt {i j : Int} {a : Nat} (ha : i.natAbs < 2 ^ a) (hb : j.natAbs < 2 ^ a) : (i + j).natAbs < 2 ^ (a + 1) := by
  have := Int.natAbs_add_le i j
  rw [Nat.pow_succ]; omega
theorem sub_lt {i j : Int} {a : Nat} (ha : i.natAbs < 2 ^ a) (hb : j.natAbs < 2 ^ a) : (i - j).natAbs < 2 ^ (a + 1) := by
  have := Int.natAbs_sub_le i j
  rw [Nat.pow_succ]; omega
theorem lt_mono {n a b : Nat} (h : n < 2 ^ a) (hb : a ≤ b) : n < 2 ^ b := Nat.lt_of_lt_of_le h (Nat.pow_le_pow_right (by decide) hb)
/-! ### fractions -/
/-- a fraction as the program has it -/
def rq (q : Rat) : D := .tup [.int q.num, .int q.den]
theorem fmod_nat (x y : Nat) : Int.fmod (x : Int) (y : Int) = ((x % y : Nat) : Int) := by
  rw [Int.fmod_eq_emod_of_nonneg _ (by omega)]; rfl
/-- the greatest common part, by turns -/
theorem gcd_while {t : TDen} {b : SDen} (mk : Int → Int → En) (ht : ∀ (x y : Nat) (S : Sto), t (mk x y) S = some (decide (y ≠ 0), S)) (hb : ∀ (x y : Nat) (S : Sto), y ≠ 0 → b (mk x y) S = some (.nx, mk y ((x % y : Nat) : Int), S)) (S : Sto) :
    ∀ (y x : Nat), sWhile t b (mk x y) S = some (.nx, mk (Nat.gcd x y : Nat) 0, S) := by
  intro y
  induction y using Nat.strongRecOn with
  | _ y ih =>
    intro x
    rw [sWhile_eq, ht]
    simp only [Option.bind_some]
    by_cases hy : y = 0
    · subst hy
      simp
    · rw [decide_eq_true hy, if_pos rfl, hb x y S hy]
      simp only [Option.bind_some]
      rw [ih (x % y) (Nat.mod_lt _ (by omega)) y]
      rw [Nat.gcd_comm y, ← Nat.gcd_rec, Nat.gcd_comm]
theorem gcd_pos {a b : Int} (hb : b ≠ 0) : 0 < Int.gcd a b := by
  unfold Int.gcd
  exact Nat.gcd_pos_of_pos_right _ (by omega)
theorem frac_num {a b : Int} (hb : b ≠ 0) : a.fdiv (if b < 0 then -(Int.gcd a b : Int) else (Int.gcd a b : Int)) = (Rat.divInt a b).num ∧ b.fdiv (if b < 0 then -(Int.gcd a b : Int) else (Int.gcd a b : Int)) = ((Rat.divInt a b).den : Int) := by
  have hg : (Int.gcd a b : Int) ≠ 0 := by
    have := gcd_pos (a := a) hb
    omega
  have h1 : (Int.gcd a b : Int) ∣ a := Int.gcd_dvd_left ..
  have h2 : (Int.gcd a b : Int) ∣ b := Int.gcd_dvd_right ..
  have hn := Rat.num_divInt a b
  have hd := Rat.den_divInt a b
  rw [if_neg hb, Int.gcd_comm b a] at hd
  rw [Int.gcd_comm b a] at hn
  rw [hn, hd]
  generalize hG : Int.gcd a b = g at *
  obtain ⟨x, rfl⟩ := h1
  obtain ⟨y, rfl⟩ := h2
  have hg0 : 0 < (g : Int) := by omega
  have hyn : y ≠ 0 := by rintro rfl; simp at hb
  have e0 : ∀ z : Int, (g : Int) * z / (g : Int) = z := fun z => Int.mul_ediv_cancel_left z hg
  by_cases hneg : (g : Int) * y < 0
  · rw [if_pos hneg]
    have hy : y < 0 := by
      rcases Int.lt_or_le y 0 with h | h
      · exact h
      · have := Int.mul_nonneg (Int.le_of_lt hg0) h; omega
    have es : ((g : Int) * y).sign = -1 := Int.sign_eq_neg_one_of_neg hneg
    have ef : ∀ z : Int, ((g : Int) * z).fdiv (-(g : Int)) = -z := fun z => by
      rw [show (g : Int) * z = (-(g : Int)) * (-z) by rw [Int.neg_mul_neg]]
      rw [Int.mul_fdiv_cancel_left _ (by omega)]
    rw [ef, ef, es]
    constructor
    · rw [show (-1 : Int) * ((g : Int) * x) = (g : Int) * (-x) by rw [Int.neg_one_mul, Int.mul_neg], e0]
    · rw [Int.natAbs_mul]
      simp only [Int.natAbs_natCast]
      rw [Nat.mul_div_cancel_left _ (by omega)]
      omega
  · rw [if_neg hneg]
    have hy : 0 < y := by
      rcases Int.lt_or_le 0 y with h | h
      · exact h
      · have h3 : y < 0 := by omega
        have := Int.mul_neg_of_pos_of_neg hg0 h3; omega
    have es : ((g : Int) * y).sign = 1 := Int.sign_eq_one_of_pos (Int.mul_pos hg0 hy)
    have ef : ∀ z : Int, ((g : Int) * z).fdiv (g : Int) = z := fun z => Int.mul_fdiv_cancel_left _ hg
    rw [ef, ef, es]
    constructor
    · rw [Int.one_mul, e0]
    · rw [Int.natAbs_mul]
      simp only [Int.natAbs_natCast]
      rw [Nat.mul_div_cancel_left _ (by omega)]
      omega
theorem frac_wide {a b : Int} (hb : b ≠ 0) (h : b.natAbs < 2 ^ 9000) : wideD (if b < 0 then -(Int.gcd a b : Int) else (Int.gcd a b : Int)) := by
  have hg := gcd_pos (a := a) hb
  have h2 : Int.gcd a b ≤ b.natAbs := by
    have : (Int.gcd a b) ∣ b.natAbs := Int.gcd_dvd_natAbs_right a b
    exact Nat.le_of_dvd (by omega) this
  have h3 : (if b < 0 then -(Int.gcd a b : Int) else (Int.gcd a b : Int)).natAbs = Int.gcd a b := by split <;> simp
  refine ⟨by split <;> omega, ?_⟩
  rw [h3]
  exact log2_lt (Nat.lt_of_le_of_lt h2 h) (by decide)
theorem num_le {a b : Int} (hb : b ≠ 0) : (Rat.divInt a b).num.natAbs ≤ a.natAbs ∧ (Rat.divInt a b).den ≤ b.natAbs := by
  constructor
  · rw [Rat.num_divInt]
    have : ((b.sign * a) / (b.gcd a : Int)).natAbs ≤ (b.sign * a).natAbs := Int.natAbs_ediv_le_natAbs _ _
    rw [Int.natAbs_mul, Int.natAbs_sign_of_ne_zero hb, Nat.one_mul] at this
    exact this
  · rw [Rat.den_divInt, if_neg hb]
    exact Nat.div_le_self _ _
end ML

namespace ML
open PySem PySem.Spec PyProof.Rows L2
/-! ### fractions: the functions that all texts have -/
def IsGcd (F : Fn) : Prop := ∀ (a b : Int) (S : Sto), F [.int a, .int b] S = some (.int (Int.gcd a b : Int), S)
def IsFrac (F : Fn) : Prop := ∀ (a b : Int) (S : Sto), b ≠ 0 → b.natAbs < 2 ^ 9000 → F [.int a, .int b] S = some (rq (Rat.divInt a b), S)
noncomputable def Kgcd1 : Fn := mkFn 2 2 (sCons (sPar 0 1 (aCons (eCall bAbs (aCons (eVar 0) aNil)) (aCons (eCall bAbs (aCons (eVar 1) aNil)) aNil))) (sCons (sWhile (tTru (eVar 1)) (sCons (sPar 0 1 (aCons (eVar 1) (aCons (eOp gMod (eVar 0) (eVar 1)) aNil))) sNil)) (sCons (sRet (eVar 0)) sNil)))
def Kfrac (F : Fn) : Fn := mkFn 2 3 (sCons (sAsg (eCall F (aCons (eVar 0) (aCons (eVar 1) aNil))) (ML.gName 2)) (sCons (sIf (asB (eOp cLt (eVar 1) (eC (.int 0)))) (sCons (sAsg (eUn gNeg (eVar 2)) (ML.gName 2)) sNil) sNil) (sCons (sRet (eTup (aCons (eOp gFdiv (eVar 0) (eVar 2)) (aCons (eOp gFdiv (eVar 1) (eVar 2)) aNil)))) sNil)))
def en2 (x y : Int) : En := [some (.int x), some (.int y)]
theorem gcd_turn (x y : Nat) (S : Sto) (h : y ≠ 0) : (sCons (sPar 0 1 (aCons (eVar 1) (aCons (eOp gMod (eVar 0) (eVar 1)) aNil))) sNil) (en2 x y) S = some (.nx, en2 y ((x % y : Nat) : Int), S) := by
  have : ((y : Int)) ≠ 0 := by omega
  simp [en2, x_mod this, fmod_nat]
theorem gcd1 : IsGcd Kgcd1 := by
  intro a b S
  refine mk_same (env' := en2 (Int.gcd a b) 0) [some (.int a), some (.int b)] ?_
  have z := gcd_while (t := tTru (eVar 1)) en2 (fun x y S => by by_cases h : y = 0 <;> simp [en2, h]) (fun x y S h => gcd_turn x y S h) S b.natAbs a.natAbs
  simp only [en2] at z
  simp [z, en2, Int.gcd]
theorem frac_ok {F : Fn} (hF : IsGcd F) : IsFrac (Kfrac F) := by
  intro a b S hb hs
  have hw := frac_wide (a := a) hb hs
  obtain ⟨n1, n2⟩ := frac_num (a := a) hb
  by_cases h : b < 0
  · rw [if_pos h] at hw n1 n2
    refine mk_same (env' := [some (.int a), some (.int b), some (.int (-(Int.gcd a b : Int)))]) [some (.int a), some (.int b), none] ?_
    simp [hF a b S, h, x_fdiv hw, n1, n2, rq]
  · rw [if_neg h] at hw n1 n2
    refine mk_same (env' := [some (.int a), some (.int b), some (.int ((Int.gcd a b : Int)))]) [some (.int a), some (.int b), none] ?_
    simp [hF a b S, h, x_fdiv hw, n1, n2, rq]
/-! ### the deck -/
structure Dk (m : Nat) (rest : List Ob) (S : Sto) : Prop where
  ex : ∃ (ns parts : List Int) (i j : Int), S = .rol (ns.map .int) :: .lst (parts.map .int) :: .lst [.loc 0, .loc 1, .int i, .int j] :: rest ∧ ns.length ≤ 63 ∧ 0 ≤ i ∧ 0 ≤ j ∧ j ≤ m
theorem Dk.mono {m n : Nat} {rest : List Ob} {S : Sto} (h : Dk m rest S) (hl : m ≤ n) : Dk n rest S := by
  obtain ⟨ns, parts, i, j, e, a, b, c, d⟩ := h.ex
  exact ⟨ns, parts, i, j, e, a, b, c, by omega⟩
theorem Dk.len {m : Nat} {rest : List Ob} {S : Sto} (h : Dk m rest S) : S.length = rest.length + 3 := by
  obtain ⟨ns, parts, i, j, e, _⟩ := h.ex
  rw [e]; simp
@[simp] theorem lsAt_rol {xs : List D} {S : Sto} {l : Nat} (h : S[l]? = some (.rol xs)) : lsAt S l = some xs := by unfold lsAt; rw [h]; rfl
@[simp] theorem lsAt_lst {xs : List D} {S : Sto} {l : Nat} (h : S[l]? = some (.lst xs)) : lsAt S l = some xs := by unfold lsAt; rw [h]; rfl
@[simp] theorem x_lenl {S : Sto} {l : Nat} : bLen [.loc l] S = (lsAt S l).map fun xs => (.int xs.length, S) := rfl
@[simp] theorem x_ixl {S : Sto} {l : Nat} {i : Int} : gIx (.loc l) (.int i) S = (lsAt S l).bind fun xs => (atI xs i).map fun d => (d, S) := rfl
@[simp] theorem x_put {S : Sto} {env : En} {fo fi : Den} {d : D} : gPut fo fi d env S = (fo env S).bind fun p => (fi env p.2).bind fun q => match p.1, q.1 with
  | .loc l, .int i => match q.2[l]? with
    | some (.lst xs) => (ixN xs.length i).map fun j => (env, q.2.set l (.lst (xs.set j d)))
    | _ => none
  | _, _ => none := rfl
/-- the store with a deck -/
def dkS (ns parts : List Int) (i j : Int) (rest : List Ob) : Sto := .rol (ns.map .int) :: .lst (parts.map .int) :: .lst [.loc 0, .loc 1, .int i, .int j] :: rest
@[simp] theorem dk_0 {ns parts : List Int} {i j : Int} {rest : List Ob} : lsAt (dkS ns parts i j rest) 0 = some (ns.map .int) := rfl
@[simp] theorem dk_1 {ns parts : List Int} {i j : Int} {rest : List Ob} : lsAt (dkS ns parts i j rest) 1 = some (parts.map .int) := rfl
@[simp] theorem dk_2 {ns parts : List Int} {i j : Int} {rest : List Ob} : lsAt (dkS ns parts i j rest) 2 = some [.loc 0, .loc 1, .int i, .int j] := rfl
@[simp] theorem dk_g1 {ns parts : List Int} {i j : Int} {rest : List Ob} : (dkS ns parts i j rest)[1]? = some (.lst (parts.map .int)) := rfl
@[simp] theorem dk_g2 {ns parts : List Int} {i j : Int} {rest : List Ob} : (dkS ns parts i j rest)[2]? = some (.lst [.loc 0, .loc 1, .int i, .int j]) := rfl
@[simp] theorem dk_s1 {ns parts ps : List Int} {i j : Int} {rest : List Ob} : List.set (dkS ns parts i j rest) 1 (.lst (ps.map .int)) = dkS ns ps i j rest := rfl
@[simp] theorem dk_s2 {ns parts : List Int} {i j i' j' : Int} {rest : List Ob} : List.set (dkS ns parts i j rest) 2 (.lst [.loc 0, .loc 1, .int i', .int j']) = dkS ns parts i' j' rest := rfl
section
variable {k : Int}
end
@[simp] theorem x_lc {it : IDen} {g : GDen} {t : TDen} {f : Den} {vs : List Nat} {env : En} {S : Sto} : uLc it g t f vs env S = (it env S).bind fun p => lcRun p.1.src g t f (wipeE env vs) p.1.ds [] p.2 := rfl
@[simp] theorem x_iseqL {f : Den} {env : En} {S : Sto} : iSeq f env S = (f env S).bind fun p => match p.1 with
  | .tup ds => some (⟨ds, []⟩, p.2)
  | .loc l => match p.2[l]? with
    | some (.lst ds) => some (⟨ds, [(l, .lst ds)]⟩, p.2)
    | some (.rol ds) => some (⟨ds, [(l, .rol ds)]⟩, p.2)
    | _ => none
  | _ => none := rfl
end ML

namespace ML
open PySem PySem.Spec PyProof.Rows L2
/-! ### kinds -/
@[simp] theorem kit_tt : kitB "tuple" "tuple" = some true := by decide +kernel
@[simp] theorem kit_it : kitB "int" "tuple" = some false := by decide +kernel
@[simp] theorem kit_bt : kitB "bool" "tuple" = some false := by decide +kernel
@[simp] theorem kit_st : kitB "str" "tuple" = some false := by decide +kernel
@[simp] theorem kit_lt : kitB "list" "tuple" = some false := by decide +kernel
@[simp] theorem kit_dt : kitB "dict" "tuple" = some false := by decide +kernel
@[simp] theorem kit_nt : kitB "NoneType" "tuple" = some false := by decide +kernel
@[simp] theorem kit_ii : kitB "int" "int" = some true := by decide +kernel
@[simp] theorem kit_bi : kitB "bool" "int" = some true := by decide +kernel
@[simp] theorem kit_ti : kitB "tuple" "int" = some false := by decide +kernel
@[simp] theorem kit_si : kitB "str" "int" = some false := by decide +kernel
@[simp] theorem kit_li : kitB "list" "int" = some false := by decide +kernel
@[simp] theorem kit_ni : kitB "NoneType" "int" = some false := by decide +kernel
@[simp] theorem kit_ib : kitB "int" "bool" = some false := by decide +kernel
@[simp] theorem kit_bb : kitB "bool" "bool" = some true := by decide +kernel
@[simp] theorem kit_tb : kitB "tuple" "bool" = some false := by decide +kernel
@[simp] theorem kit_sb : kitB "str" "bool" = some false := by decide +kernel
@[simp] theorem kit_nb : kitB "NoneType" "bool" = some false := by decide +kernel
@[simp] theorem kit_ss : kitB "str" "str" = some true := by decide +kernel
@[simp] theorem kit_is : kitB "int" "str" = some false := by decide +kernel
@[simp] theorem kit_bs : kitB "bool" "str" = some false := by decide +kernel
@[simp] theorem kit_ts : kitB "tuple" "str" = some false := by decide +kernel
@[simp] theorem kit_ns : kitB "NoneType" "str" = some false := by decide +kernel
@[simp] theorem kit_tl : kitB "tuple" "list" = some false := by decide +kernel
@[simp] theorem kit_ll : kitB "list" "list" = some true := by decide +kernel
@[simp] theorem kit_il : kitB "int" "list" = some false := by decide +kernel
@[simp] theorem kit_nl : kitB "NoneType" "list" = some false := by decide +kernel
@[simp] theorem kit_sl : kitB "str" "list" = some false := by decide +kernel
@[simp] theorem kit_bl : kitB "bool" "list" = some false := by decide +kernel
section
variable {S : Sto} {c : String}
@[simp] theorem ty_i {i : Int} : tyN S (.int i) = some "int" := rfl
@[simp] theorem ty_b {i : Bool} : tyN S (.bl i) = some "bool" := rfl
@[simp] theorem ty_s {i : Str} : tyN S (.str i) = some "str" := rfl
@[simp] theorem ty_t {i : List D} : tyN S (.tup i) = some "tuple" := rfl
@[simp] theorem ty_n : tyN S .non = some "NoneType" := rfl
@[simp] theorem x_isi {d : D} : bIsi [d, .ty c] S = (tyN S d).bind fun t => (kitB t c).map fun b => (.bl b, S) := by
  cases d <;> rfl
/-! fractions alike -/
theorem sh_rq {q : Rat} : SeqAt.shaped (.tuple [.int q.num, .int q.den]) = true := rfl
theorem eq_rq {q r : Rat} : eqP S (rq q) (rq r) = some (decide (q = r)) := by
  simp only [eqP, rq, toPS, toP, toPL, Option.bind_some, Option.map_some, sh_rq, Bool.and_self, if_true, PyData.eqv, PyData.eqvAll, Bool.and_true]
  congr 1
  rw [Bool.eq_iff_iff]
  simp only [Bool.and_eq_true, beq_iff_eq, decide_eq_true_eq]
  constructor
  · rintro ⟨a, b⟩
    exact Rat.ext a (by omega)
  · rintro rfl; exact ⟨rfl, rfl⟩
@[simp] theorem x_eqq {q r : Rat} : cEq (rq q) (rq r) S = some (.bl (decide (q = r)), S) := by
  show (eqP S (rq q) (rq r)).map _ = _
  rw [eq_rq]; rfl
@[simp] theorem x_neq {q r : Rat} : cNe (rq q) (rq r) S = some (.bl (!decide (q = r)), S) := by
  show (eqP S (rq q) (rq r)).map _ = _
  rw [eq_rq]; rfl
@[simp] theorem x_eqU {neg : Bool} {f g : ADen} {env : En} : eEqU neg f g env S = (f env S).bind fun p => (g env p.2).bind fun q => (toPL p.1).bind fun x => (toPL q.1).bind fun y =>
  if SeqAt.shaped (.list x) && SeqAt.shaped (.list y) then some (.bl (if neg = true then !PyData.eqv (.list x) (.list y) else PyData.eqv (.list x) (.list y)), q.2) else none := rfl
end
end ML

namespace ML
open PySem PySem.Spec PyProof.Rows L2
/-! ### sums and products of fractions -/
theorem ix_q0 {q : Rat} {S : Sto} : gIx (rq q) (.int 0) S = some (.int q.num, S) := rfl
theorem ix_q1 {q : Rat} {S : Sto} : gIx (rq q) (.int 1) S = some (.int q.den, S) := rfl
theorem den_ne (q : Rat) : ((q.den : Nat) : Int) ≠ 0 := by have := q.den_pos; omega
/-- both parts below 2 ^ k -/
def Sz (k : Nat) (q : Rat) : Prop := q.num.natAbs < 2 ^ k ∧ q.den < 2 ^ k
theorem Sz.mono {k l : Nat} {q : Rat} (h : Sz k q) (hl : k ≤ l) : Sz l q := ⟨lt_mono h.1 hl, lt_mono h.2 hl⟩
theorem sz_div {a b : Int} {k : Nat} (hb : b ≠ 0) (h1 : a.natAbs < 2 ^ k) (h2 : b.natAbs < 2 ^ k) : Sz k (Rat.divInt a b) := by
  have := num_le (a := a) hb
  exact ⟨by omega, by omega⟩
theorem q_eq (q : Rat) : q = Rat.divInt q.num q.den := (Rat.num_divInt_den q).symm
theorem add_div (q r : Rat) : q + r = Rat.divInt (q.num * r.den + r.num * q.den) (q.den * r.den) := by
  have h := Rat.divInt_add_divInt q.num r.num (den_ne q) (den_ne r)
  rw [← q_eq, ← q_eq] at h
  exact h
theorem sub_div (q r : Rat) : q - r = Rat.divInt (q.num * r.den - r.num * q.den) (q.den * r.den) := by
  have h := Rat.divInt_sub_divInt q.num r.num (den_ne q) (den_ne r)
  rw [← q_eq, ← q_eq] at h
  exact h
theorem mul_div (q r : Rat) : q * r = Rat.divInt (q.num * r.num) (q.den * r.den) := by
  have h := Rat.divInt_mul_divInt q.num r.num (d₁ := q.den) (d₂ := r.den)
  rw [← q_eq, ← q_eq] at h
  exact h
theorem inv_div (r : Rat) : r⁻¹ = Rat.divInt r.den r.num := by
  have h := Rat.inv_divInt r.num r.den
  rw [← q_eq] at h
  exact h
theorem div_div (q r : Rat) : q / r = Rat.divInt (q.num * r.den) (q.den * r.num) := by
  rw [Rat.div_def, inv_div]
  conv => lhs; rw [q_eq q]
  exact Rat.divInt_mul_divInt q.num r.den (d₁ := q.den) (d₂ := r.num)
theorem nat_lt {n k : Nat} (h : n < 2 ^ k) : ((n : Nat) : Int).natAbs < 2 ^ k := by simpa using h
theorem sz_add {q r : Rat} {a b : Nat} (hq : Sz a q) (hr : Sz b r) : Sz (a + b + 1) (q + r) := by
  rw [add_div]
  refine sz_div (Int.mul_ne_zero (den_ne q) (den_ne r)) ?_ ?_
  · have h1 := mul_lt hq.1 (nat_lt hr.2)
    have h2 := mul_lt hr.1 (nat_lt hq.2)
    rw [Nat.add_comm b a] at h2
    exact add_lt h1 h2
  · exact lt_mono (mul_lt (nat_lt hq.2) (nat_lt hr.2)) (by omega)
theorem sz_sub {q r : Rat} {a b : Nat} (hq : Sz a q) (hr : Sz b r) : Sz (a + b + 1) (q - r) := by
  rw [sub_div]
  refine sz_div (Int.mul_ne_zero (den_ne q) (den_ne r)) ?_ ?_
  · have h1 := mul_lt hq.1 (nat_lt hr.2)
    have h2 := mul_lt hr.1 (nat_lt hq.2)
    rw [Nat.add_comm b a] at h2
    exact sub_lt h1 h2
  · exact lt_mono (mul_lt (nat_lt hq.2) (nat_lt hr.2)) (by omega)
theorem sz_mul {q r : Rat} {a b : Nat} (hq : Sz a q) (hr : Sz b r) : Sz (a + b) (q * r) := by
  rw [mul_div]
  exact sz_div (Int.mul_ne_zero (den_ne q) (den_ne r)) (mul_lt hq.1 hr.1) (mul_lt (nat_lt hq.2) (nat_lt hr.2))
theorem num_ne {r : Rat} (h : r ≠ 0) : r.num ≠ 0 := fun e => h (Rat.num_eq_zero.mp e)
theorem sz_over {q r : Rat} {a b : Nat} (hq : Sz a q) (hr : Sz b r) (h : r ≠ 0) : Sz (a + b) (q / r) := by
  rw [div_div]
  exact sz_div (Int.mul_ne_zero (den_ne q) (num_ne h)) (mul_lt hq.1 (nat_lt hr.2)) (mul_lt (nat_lt hq.2) hr.1)
theorem sz_neg {q : Rat} {a : Nat} (h : Sz a q) : Sz a (-q) := ⟨by rw [Rat.neg_num, Int.natAbs_neg]; exact h.1, by rw [Rat.neg_den]; exact h.2⟩
theorem sz_0 {k : Nat} (h : 0 < k := by decide) : Sz k 0 := by
  have : 1 < 2 ^ k := Nat.one_lt_two_pow (by omega)
  exact ⟨by show 0 < 2 ^ k; omega, this⟩
theorem sz_1 {k : Nat} (h : 0 < k := by decide) : Sz k 1 := by
  have : 1 < 2 ^ k := Nat.one_lt_two_pow (by omega)
  exact ⟨this, this⟩
noncomputable def Kplus (F : Fn) : Fn := mkFn 2 2 (sCons (sRet (eCall F (aCons (eOp gAdd (eOp gMul (eOp gIx (eVar 0) (eC (.int 0))) (eOp gIx (eVar 1) (eC (.int 1)))) (eOp gMul (eOp gIx (eVar 1) (eC (.int 0))) (eOp gIx (eVar 0) (eC (.int 1))))) (aCons (eOp gMul (eOp gIx (eVar 0) (eC (.int 1))) (eOp gIx (eVar 1) (eC (.int 1)))) aNil)))) sNil)
noncomputable def Kminus (F : Fn) : Fn := mkFn 2 2 (sCons (sRet (eCall F (aCons (eOp gSub (eOp gMul (eOp gIx (eVar 0) (eC (.int 0))) (eOp gIx (eVar 1) (eC (.int 1)))) (eOp gMul (eOp gIx (eVar 1) (eC (.int 0))) (eOp gIx (eVar 0) (eC (.int 1))))) (aCons (eOp gMul (eOp gIx (eVar 0) (eC (.int 1))) (eOp gIx (eVar 1) (eC (.int 1)))) aNil)))) sNil)
noncomputable def Ktimes (F : Fn) : Fn := mkFn 2 2 (sCons (sRet (eCall F (aCons (eOp gMul (eOp gIx (eVar 0) (eC (.int 0))) (eOp gIx (eVar 1) (eC (.int 0)))) (aCons (eOp gMul (eOp gIx (eVar 0) (eC (.int 1))) (eOp gIx (eVar 1) (eC (.int 1)))) aNil)))) sNil)
noncomputable def Ksign : Fn := mkFn 1 1 (sCons (sRet (eOp gSub (eCall bInt (aCons (eOp cGt (eOp gIx (eVar 0) (eC (.int 0))) (eC (.int 0))) aNil)) (eCall bInt (aCons (eOp cLt (eOp gIx (eVar 0) (eC (.int 0))) (eC (.int 0))) aNil)))) sNil)
/-- the function of two fractions that is told by f, of parts below 2 ^ 4000 -/
def IsQ2 (F : Fn) (f : Rat → Rat → Rat) : Prop := ∀ (q r : Rat) (S : Sto), Sz 4000 q → Sz 4000 r → F [rq q, rq r] S = some (rq (f q r), S)
theorem fits (q r : Rat) (hq : Sz 4000 q) (hr : Sz 4000 r) : (((q.den : Nat) : Int) * ((r.den : Nat) : Int)).natAbs < 2 ^ 9000 := lt_mono (mul_lt (nat_lt hq.2) (nat_lt hr.2)) (by decide)
theorem plus_ok {F : Fn} (hF : IsFrac F) : IsQ2 (Kplus F) (· + ·) := by
  intro q r S hq hr
  have w1 : wideM q.num r.den := wideM_of hq.1 (nat_lt hr.2)
  have w2 : wideM r.num q.den := wideM_of hr.1 (nat_lt hq.2)
  have w3 : wideM q.den r.den := wideM_of (nat_lt hq.2) (nat_lt hr.2)
  have f := hF (q.num * r.den + r.num * q.den) _ S (Int.mul_ne_zero (den_ne q) (den_ne r)) (fits q r hq hr)
  refine mk_same [some (rq q), some (rq r)] (env' := [some (rq q), some (rq r)]) ?_
  simp [ix_q0, ix_q1, x_mul w1, x_mul w2, x_mul w3, f, add_div]
theorem minus_ok {F : Fn} (hF : IsFrac F) : IsQ2 (Kminus F) (· - ·) := by
  intro q r S hq hr
  have w1 : wideM q.num r.den := wideM_of hq.1 (nat_lt hr.2)
  have w2 : wideM r.num q.den := wideM_of hr.1 (nat_lt hq.2)
  have w3 : wideM q.den r.den := wideM_of (nat_lt hq.2) (nat_lt hr.2)
  have f := hF (q.num * r.den - r.num * q.den) _ S (Int.mul_ne_zero (den_ne q) (den_ne r)) (fits q r hq hr)
  refine mk_same [some (rq q), some (rq r)] (env' := [some (rq q), some (rq r)]) ?_
  simp [ix_q0, ix_q1, x_mul w1, x_mul w2, x_mul w3, f, sub_div]
theorem times_ok {F : Fn} (hF : IsFrac F) : IsQ2 (Ktimes F) (· * ·) := by
  intro q r S hq hr
  have w1 : wideM q.num r.num := wideM_of hq.1 hr.1
  have w3 : wideM q.den r.den := wideM_of (nat_lt hq.2) (nat_lt hr.2)
  have f := hF (q.num * r.num) _ S (Int.mul_ne_zero (den_ne q) (den_ne r)) (fits q r hq hr)
  refine mk_same [some (rq q), some (rq r)] (env' := [some (rq q), some (rq r)]) ?_
  simp [ix_q0, ix_q1, x_mul w1, x_mul w3, f, mul_div]
def sgn (q : Rat) : Int := (if 0 < q.num then 1 else 0) - (if q.num < 0 then 1 else 0)
theorem sign_ok (q : Rat) (S : Sto) : Ksign [rq q] S = some (.int (sgn q), S) := by
  refine mk_same [some (rq q)] (env' := [some (rq q)]) ?_
  simp [ix_q0, sgn]
/-! ### draws of fractions -/
end ML

namespace ML
open PySem PySem.Spec PyProof.Rows L2
section
variable {env : En} {S : Sto}
theorem x_for {it : IDen} {g : GDen} {b : SDen} : sFor it g b env S = (it env S).bind fun p => fRun p.1.src g b p.1.ds env p.2 := rfl
@[simp] theorem x_range1 {j : Int} {f : Den} (hf : f env S = some (.int j, S)) (h : -(2 ^ 62) ≤ j ∧ j < 2 ^ 62) : iRange1 f env S = some (⟨rngs 0 j.toNat, []⟩, S) := by
  unfold iRange1
  rw [hf]
  simp only [Option.bind_some]
  rw [if_pos h]
end
/-! ### points -/
def rp (a b c : Rat) : D := .tup [rq a, rq b, rq c]
noncomputable def Kdot (Fp Ft : Fn) : Fn := mkFn 2 8 (sCons (sAsg (eTup (aCons (eVar 0) (aCons (eVar 1) aNil))) (ML.gTup 2 (ML.gCons (ML.gTup 3 (ML.gCons (ML.gName 2) (ML.gCons (ML.gName 3) (ML.gCons (ML.gName 4) ML.gNil)))) (ML.gCons (ML.gTup 3 (ML.gCons (ML.gName 5) (ML.gCons (ML.gName 6) (ML.gCons (ML.gName 7) ML.gNil)))) ML.gNil)))) (sCons (sRet (eCall Fp (aCons (eCall Fp (aCons (eCall Ft (aCons (eVar 2) (aCons (eVar 5) aNil))) (aCons (eCall Ft (aCons (eVar 3) (aCons (eVar 6) aNil))) aNil))) (aCons (eCall Ft (aCons (eVar 4) (aCons (eVar 7) aNil))) aNil)))) sNil))
def dotQ (a b c x y z : Rat) : Rat := a * x + b * y + c * z
def IsDot (F : Fn) : Prop := ∀ (a b c x y z : Rat) (S : Sto), Sz 600 a → Sz 600 b → Sz 600 c → Sz 600 x → Sz 600 y → Sz 600 z → F [rp a b c, rp x y z] S = some (rq (dotQ a b c x y z), S)
theorem dot_ok {Fp Ft : Fn} (hp : IsQ2 Fp (· + ·)) (ht : IsQ2 Ft (· * ·)) : IsDot (Kdot Fp Ft) := by
  intro a b c x y z S ha hb hc hx hy hz
  have t1 := ht a x S (ha.mono (by decide)) (hx.mono (by decide))
  have t2 := ht b y S (hb.mono (by decide)) (hy.mono (by decide))
  have t3 := ht c z S (hc.mono (by decide)) (hz.mono (by decide))
  have p1 := hp (a * x) (b * y) S ((sz_mul ha hx).mono (by decide)) ((sz_mul hb hy).mono (by decide))
  have p2 := hp (a * x + b * y) (c * z) S ((sz_add (sz_mul ha hx) (sz_mul hb hy)).mono (by decide)) ((sz_mul hc hz).mono (by decide))
  refine mk_same [some (rp a b c), some (rp x y z), none, none, none, none, none, none] (env' := [some (rp a b c), some (rp x y z), some (rq a), some (rq b), some (rq c), some (rq x), some (rq y), some (rq z)]) ?_
  simp [rp, t1, t2, t3, p1, p2, dotQ]
end ML

namespace ML
open PySem PySem.Spec PyProof.Rows L2
/-! ### plain data, alike or not -/
mutual
def pd : Nat → D → Bool
  | _, .int _ => true
  | _, .non => true
  | _, .str x => (PyData.str x).canLay0
  | n, .tup ds => match n with
    | 0 => false
    | m + 1 => pdL m ds
  | _, _ => false
def pdL : Nat → List D → Bool
  | _, [] => true
  | n, d :: ds => pd n d && pdL n ds
end
mutual
theorem pd_toP : ∀ (d : D) (n : Nat), pd n d = true → ∃ p, toP d = some p ∧ p.canLay0 = true ∧ p.depth ≤ n + 1
  | .int i, n, h => ⟨_, rfl, rfl, by simp [PyData.depth]⟩
  | .non, n, h => ⟨_, rfl, rfl, by simp [PyData.depth]⟩
  | .str x, n, h => ⟨_, rfl, h, by simp [PyData.depth]⟩
  | .tup ds, 0, h => by cases h
  | .tup ds, n + 1, h => by
    obtain ⟨ps, h1, h2, h3⟩ := pd_toPL ds n (by simpa only [pd] using h)
    exact ⟨.tuple ps, by simp only [toP, h1, Option.map_some], h2, by simp only [PyData.depth]; omega⟩
  | .bl _, n, h => by cases n <;> cases h
  | .loc _, n, h => by cases n <;> cases h
  | .ty _, n, h => by cases n <;> cases h
  | .fn _, n, h => by cases n <;> cases h
theorem pd_toPL : ∀ (ds : List D) (n : Nat), pdL n ds = true → ∃ ps, toPL ds = some ps ∧ PyData.canLayAll0 ps = true ∧ PyData.depthAll ps ≤ n + 1
  | [], n, h => ⟨[], rfl, rfl, by simp [PyData.depthAll]⟩
  | d :: ds, n, h => by
    simp only [pdL, Bool.and_eq_true] at h
    obtain ⟨p, a1, a2, a3⟩ := pd_toP d n h.1
    obtain ⟨ps, b1, b2, b3⟩ := pd_toPL ds n h.2
    exact ⟨p :: ps, by simp only [toPL, a1, b1, Option.bind_some, Option.map_some], by simp only [PyData.canLayAll0, a2, b2, Bool.and_self], by simp only [PyData.depthAll]; omega⟩
end
mutual
theorem pd_eqv : ∀ (d e : D) (n m : Nat) (p q : PyData), pd n d = true → pd m e = true → toP d = some p → toP e = some q → (PyData.eqv p q = true ↔ d = e)
  | .tup ds, .tup es, n + 1, m + 1, p, q, h1, h2, e1, e2 => by
    simp only [toP] at e1 e2
    obtain ⟨ps, x1, rfl⟩ := Option.map_eq_some_iff.mp e1
    obtain ⟨qs, x2, rfl⟩ := Option.map_eq_some_iff.mp e2
    have := pd_eqvL ds es n m ps qs (by simpa only [pd] using h1) (by simpa only [pd] using h2) x1 x2
    simp only [PyData.eqv, this, D.tup.injEq]
  | .tup ds, _, 0, _, p, q, h1, h2, e1, e2 => by cases h1
  | _, .tup ds, _, 0, p, q, h1, h2, e1, e2 => by cases h2
  | .int i, .int j, n, m, p, q, h1, h2, e1, e2 => by cases e1; cases e2; simp [PyData.eqv]
  | .str i, .str j, n, m, p, q, h1, h2, e1, e2 => by cases e1; cases e2; simp [PyData.eqv]
  | .non, .non, n, m, p, q, h1, h2, e1, e2 => by cases e1; cases e2; simp [PyData.eqv]
  | .int i, .str j, n, m, p, q, h1, h2, e1, e2 => by cases e1; cases e2; simp [PyData.eqv]
  | .int i, .non, n, m, p, q, h1, h2, e1, e2 => by cases e1; cases e2; simp [PyData.eqv]
  | .str i, .int j, n, m, p, q, h1, h2, e1, e2 => by cases e1; cases e2; simp [PyData.eqv]
  | .str i, .non, n, m, p, q, h1, h2, e1, e2 => by cases e1; cases e2; simp [PyData.eqv]
  | .non, .int j, n, m, p, q, h1, h2, e1, e2 => by cases e1; cases e2; simp [PyData.eqv]
  | .non, .str j, n, m, p, q, h1, h2, e1, e2 => by cases e1; cases e2; simp [PyData.eqv]
  | .int i, .tup es, n, m + 1, p, q, h1, h2, e1, e2 => by
    simp only [toP] at e1 e2
    obtain ⟨qs, x2, rfl⟩ := Option.map_eq_some_iff.mp e2
    cases e1; simp [PyData.eqv]
  | .str i, .tup es, n, m + 1, p, q, h1, h2, e1, e2 => by
    simp only [toP] at e1 e2
    obtain ⟨qs, x2, rfl⟩ := Option.map_eq_some_iff.mp e2
    cases e1; simp [PyData.eqv]
  | .non, .tup es, n, m + 1, p, q, h1, h2, e1, e2 => by
    simp only [toP] at e1 e2
    obtain ⟨qs, x2, rfl⟩ := Option.map_eq_some_iff.mp e2
    cases e1; simp [PyData.eqv]
  | .tup es, .int i, n + 1, m, p, q, h1, h2, e1, e2 => by
    simp only [toP] at e1 e2
    obtain ⟨qs, x2, rfl⟩ := Option.map_eq_some_iff.mp e1
    cases e2; simp [PyData.eqv]
  | .tup es, .str i, n + 1, m, p, q, h1, h2, e1, e2 => by
    simp only [toP] at e1 e2
    obtain ⟨qs, x2, rfl⟩ := Option.map_eq_some_iff.mp e1
    cases e2; simp [PyData.eqv]
  | .tup es, .non, n + 1, m, p, q, h1, h2, e1, e2 => by
    simp only [toP] at e1 e2
    obtain ⟨qs, x2, rfl⟩ := Option.map_eq_some_iff.mp e1
    cases e2; simp [PyData.eqv]
  | .bl _, _, n, m, p, q, h1, h2, e1, e2 => by cases n <;> cases h1
  | .loc _, _, n, m, p, q, h1, h2, e1, e2 => by cases n <;> cases h1
  | .ty _, _, n, m, p, q, h1, h2, e1, e2 => by cases n <;> cases h1
  | .fn _, _, n, m, p, q, h1, h2, e1, e2 => by cases n <;> cases h1
  | _, .bl _, n, m, p, q, h1, h2, e1, e2 => by cases m <;> cases h2
  | _, .loc _, n, m, p, q, h1, h2, e1, e2 => by cases m <;> cases h2
  | _, .ty _, n, m, p, q, h1, h2, e1, e2 => by cases m <;> cases h2
  | _, .fn _, n, m, p, q, h1, h2, e1, e2 => by cases m <;> cases h2
theorem pd_eqvL : ∀ (ds es : List D) (n m : Nat) (ps qs : List PyData), pdL n ds = true → pdL m es = true → toPL ds = some ps → toPL es = some qs → (PyData.eqvAll ps qs = true ↔ ds = es)
  | [], [], n, m, ps, qs, h1, h2, e1, e2 => by cases e1; cases e2; simp [PyData.eqvAll]
  | d :: ds, [], n, m, ps, qs, h1, h2, e1, e2 => by
    simp only [toPL] at e1 e2
    obtain ⟨p, a1, e1⟩ := Option.bind_eq_some_iff.mp e1
    obtain ⟨ps', a2, rfl⟩ := Option.map_eq_some_iff.mp e1
    cases e2; simp [PyData.eqvAll]
  | [], d :: ds, n, m, ps, qs, h1, h2, e1, e2 => by
    simp only [toPL] at e1 e2
    obtain ⟨p, a1, e2⟩ := Option.bind_eq_some_iff.mp e2
    obtain ⟨ps', a2, rfl⟩ := Option.map_eq_some_iff.mp e2
    cases e1; simp [PyData.eqvAll]
  | d :: ds, e :: es, n, m, ps, qs, h1, h2, e1, e2 => by
    simp only [toPL] at e1 e2
    obtain ⟨p, a1, e1⟩ := Option.bind_eq_some_iff.mp e1
    obtain ⟨ps', a2, rfl⟩ := Option.map_eq_some_iff.mp e1
    obtain ⟨q, b1, e2⟩ := Option.bind_eq_some_iff.mp e2
    obtain ⟨qs', b2, rfl⟩ := Option.map_eq_some_iff.mp e2
    simp only [pdL, Bool.and_eq_true] at h1 h2
    have x := pd_eqv d e n m p q h1.1 h2.1 a1 b1
    have y := pd_eqvL ds es n m ps' qs' h1.2 h2.2 a2 b2
    simp only [PyData.eqvAll, Bool.and_eq_true, x, y, List.cons.injEq]
end
theorem toPS_pd {S : Sto} {d : D} {n : Nat} (h : pd n d = true) : toPS S d = toP d := by
  cases d with
  | loc l => cases n <;> cases h
  | _ => rfl
theorem eqP_pd {S : Sto} {d e : D} {n m : Nat} (h1 : pd n d = true) (h2 : pd m e = true) (hn : n ≤ 60 := by decide) (hm : m ≤ 60 := by decide) : ∃ k, eqP S d e = some k ∧ (k = true ↔ d = e) := by
  obtain ⟨p, a1, a2, a3⟩ := pd_toP d n h1
  obtain ⟨q, b1, b2, b3⟩ := pd_toP e m h2
  have s1 : SeqAt.shaped p = true := by unfold SeqAt.shaped; rw [a2, decide_eq_true (by omega)]; rfl
  have s2 : SeqAt.shaped q = true := by unfold SeqAt.shaped; rw [b2, decide_eq_true (by omega)]; rfl
  exact ⟨_, by rw [eqP, toPS_pd h1, toPS_pd h2, a1, b1]; simp only [Option.bind_some, s1, s2, Bool.and_self, if_true], pd_eqv d e n m p q h1 h2 a1 b1⟩
theorem cEq_t {S : Sto} {d : D} {n : Nat} (h : pd n d = true) (hn : n ≤ 60 := by decide) : cEq d d S = some (.bl true, S) := by
  obtain ⟨k, h1, h2⟩ := eqP_pd (S := S) h h hn hn
  rw [h2.mpr rfl] at h1
  rw [cEq, h1]; rfl
theorem cNe_t {S : Sto} {d : D} {n : Nat} (h : pd n d = true) (hn : n ≤ 60 := by decide) : cNe d d S = some (.bl false, S) := by
  obtain ⟨k, h1, h2⟩ := eqP_pd (S := S) h h hn hn
  rw [h2.mpr rfl] at h1
  rw [cNe, h1]; rfl
theorem cEq_f {S : Sto} {d e : D} {n m : Nat} (h : pd n d = true) (h' : pd m e = true) (he : d ≠ e) (hn : n ≤ 60 := by decide) (hm : m ≤ 60 := by decide) : cEq d e S = some (.bl false, S) := by
  obtain ⟨k, h1, h2⟩ := eqP_pd (S := S) h h' hn hm
  have : k = false := by cases k <;> simp_all
  rw [cEq, h1, this]; rfl
theorem cNe_f {S : Sto} {d e : D} {n m : Nat} (h : pd n d = true) (h' : pd m e = true) (he : d ≠ e) (hn : n ≤ 60 := by decide) (hm : m ≤ 60 := by decide) : cNe d e S = some (.bl true, S) := by
  obtain ⟨k, h1, h2⟩ := eqP_pd (S := S) h h' hn hm
  have : k = false := by cases k <;> simp_all
  rw [cNe, h1, this]; rfl
theorem rq_inj {q r : Rat} : rq q = rq r ↔ q = r := by
  unfold rq
  simp only [D.tup.injEq, List.cons.injEq, D.int.injEq, and_true]
  exact ⟨fun ⟨a, b⟩ => Rat.ext a (by omega), fun e => by subst e; exact ⟨rfl, rfl⟩⟩
section
variable {env : En} {S : Sto} {f : Den} {l h : ODen} {fu : ADen}
@[simp] theorem x_rev : uRev f env S = (f env S).bind fun p => match p.1 with
  | .loc m => (lsAt p.2 m).map fun xs => (xs.reverse, p.2)
  | _ => none := rfl
@[simp] theorem x_esl : eSl f l h env S = (f env S).bind fun p => (l env p.2).bind fun q => (h env q.2).bind fun r => match p.1 with
  | .tup xs => some (.tup (cutD xs q.1 r.1), r.2)
  | .loc m => (lsAt r.2 m).map fun xs => (.loc r.2.length, r.2 ++ [.lst (cutD xs q.1 r.1)])
  | _ => none := rfl
@[simp] theorem x_izip : iZip fu env S = (fu env S).bind fun p => match p.1 with
  | [.tup xs, .tup ys] => some (⟨zipD xs ys, []⟩, p.2)
  | [.loc l, .loc m] => match p.2[l]?, p.2[m]? with
    | some (.lst xs), some (.lst ys) => some (⟨zipD xs ys, [(l, .lst xs), (m, .lst ys)]⟩, p.2)
    | _, _ => none
  | _ => none := rfl
@[simp] theorem x_isb {a b : Bool} : cIs (.bl a) (.bl b) S = some (.bl (decide (a = b)), S) := rfl
@[simp] theorem x_isnb {a b : Bool} : cIsNot (.bl a) (.bl b) S = some (.bl (!decide (a = b)), S) := rfl
@[simp] theorem x_onone : oNone env S = some (none, S) := rfl
@[simp] theorem x_osome {i : Int} : oSome (eC (.int i)) env S = some (some i, S) := rfl
end
/-! ### loops that leave the store -/
end ML

namespace ML
open PySem PySem.Spec PyProof.Rows L2
section
variable {S T : Sto} {o : Ob} {n : Nat}
@[simp] theorem get_app0 : (S ++ o :: T)[S.length]? = some o := by
  rw [List.getElem?_append_right (Nat.le_refl _)]; simp
@[simp] theorem get_appn : (S ++ T)[S.length + n]? = T[n]? := by
  rw [List.getElem?_append_right (by omega)]; simp
@[simp] theorem lsAt_app0 : lsAt (S ++ o :: T) S.length = o.xs? := by
  rw [lsAt, get_app0]; rfl
@[simp] theorem lsAt_appn : lsAt (S ++ T) (S.length + n) = lsAt T n := by
  rw [lsAt, get_appn]; rfl
theorem get_app_lt {l : Nat} {x : Ob} (h : S[l]? = some x) : (S ++ T)[l]? = some x := by
  rw [List.getElem?_append_left]
  · exact h
  · exact (List.getElem?_eq_some_iff.mp h).1
theorem gc_loc {S' : Sto} {n l : Nat} (h : n ≤ l) : gc n (.loc l) S' = (.loc l, S') := by
  unfold gc
  have : D.bel n (.loc l) = false := by simp only [D.bel]; exact decide_eq_false (by omega)
  rw [this]; simp
end
theorem Dk.app {m : Nat} {rest more : List Ob} {S : Sto} (h : Dk m rest S) : Dk m (rest ++ more) (S ++ more) := by
  obtain ⟨ns, parts, i, j, e, a, b, c, d⟩ := h.ex
  exact ⟨ns, parts, i, j, by rw [e]; rfl, a, b, c, d⟩
/-! texts of numbers -/
theorem ofStr_ok (s : String) : (PyData.str (Str.ofString s)).canLay0 = true := by
  show (cpsOfBytes 0 0 s.toByteArray.data.toList).toArray.all (· < 0x110000) = true
  rw [cpsOfBytes_string]
  simp only [List.all_toArray, List.all_map, List.all_eq_true, Function.comp, decide_eq_true_eq]
  intro c _
  have := c.valid
  have h2 : c.toNat = c.val.toNat := rfl
  rcases this with h | ⟨_, h⟩
  · have : c.val.toNat < 55296 := h
    omega
  · have : c.val.toNat < 1114112 := h
    omega
@[simp] theorem x_str {i : Int} {S : Sto} (h : i.natAbs.log2 < 1920) : bStr [.int i] S = some (.str (toString i), S) := if_pos h
@[simp] theorem x_dk1 {f g : Den} {env : En} {S : Sto} : eDk1 f g env S = (f env S).bind fun p => (g env p.2).bind fun q => (dKy p.1).map fun k => (.loc q.2.length, q.2 ++ [.dk [(k, q.1)]]) := rfl
@[simp] theorem x_li {f : Den} {env : En} {S : Sto} : uLi f env S = (f env S).bind fun p => match p.1 with
  | .tup xs => some (xs, p.2)
  | .loc m => (lsAt p.2 m).map fun xs => (xs, p.2)
  | _ => none := rfl
@[simp] theorem x_addLL {S : Sto} {l m : Nat} : gAdd (.loc l) (.loc m) S = match S[l]?, S[m]? with
    | some (.lst x), some (.lst y) => if x.length + y.length ≤ sizeLine then some (D.loc S.length, S ++ [Ob.lst (x ++ y)]) else none
    | _, _ => none := rfl
@[simp] theorem x_osomeG {f : Den} {env : En} {S : Sto} : oSome f env S = (f env S).bind fun p => match p.1 with
  | .int i => some (some i, p.2)
  | _ => none := rfl
theorem Dk.get {m : Nat} {rest : List Ob} {S : Sto} (h : Dk m rest S) (i : Nat) : S[i + 3]? = rest[i]? := by
  obtain ⟨ns, parts, i, j, e, a, b, c, d⟩ := h.ex
  rw [e]; rfl
theorem x_addL {S : Sto} {l m : Nat} {x y : List D} (h1 : S[l]? = some (.lst x)) (h2 : S[m]? = some (.lst y)) (h : x.length + y.length ≤ 1000) : gAdd (.loc l) (.loc m) S = some (.loc S.length, S ++ [.lst (x ++ y)]) := by
  show (match S[l]?, S[m]? with
    | some (.lst x), some (.lst y) => if x.length + y.length ≤ sizeLine then some (D.loc S.length, S ++ [Ob.lst (x ++ y)]) else none
    | _, _ => none) = _
  rw [h1, h2]
  exact if_pos (by rw [sizeLine_eq]; omega)
end ML

namespace ML
open PySem PySem.Spec PyProof.Rows L2
/-! ### stores that name only what they have -/
mutual
theorem bel_mono {n m : Nat} (h : n ≤ m) : ∀ (d : D), d.bel n = true → d.bel m = true
  | .loc l, e => by simp only [D.bel, decide_eq_true_eq] at e ⊢; omega
  | .tup ds, e => by simp only [D.bel] at e ⊢; exact belL_mono h ds e
  | .non, _ => rfl
  | .bl _, _ => rfl
  | .int _, _ => rfl
  | .str _, _ => rfl
  | .ty _, _ => rfl
  | .fn _, _ => rfl
theorem belL_mono {n m : Nat} (h : n ≤ m) : ∀ (ds : List D), D.belL n ds = true → D.belL m ds = true
  | [], _ => rfl
  | d :: ds, e => by
    simp only [D.belL, Bool.and_eq_true] at e ⊢
    exact ⟨bel_mono h d e.1, belL_mono h ds e.2⟩
end
theorem ob_mono {n m : Nat} (h : n ≤ m) (o : Ob) (e : o.bel n = true) : o.bel m = true := by
  cases o with
  | lst xs => exact belL_mono h xs e
  | rol xs => exact belL_mono h xs e
  | dk kvs =>
    simp only [Ob.bel, List.all_eq_true] at e ⊢
    exact fun p hp => bel_mono h _ (e p hp)
  | ins c fs =>
    simp only [Ob.bel, List.all_eq_true] at e ⊢
    exact fun p hp => bel_mono h _ (e p hp)
def Wf (S : Sto) : Prop := ∀ o ∈ S, o.bel S.length = true
theorem Wf.app {S : Sto} {o : Ob} (h : Wf S) (ho : o.bel (S.length + 1) = true) : Wf (S ++ [o]) := by
  intro x hx
  rw [List.length_append, List.length_singleton]
  rcases List.mem_append.mp hx with e | e
  · exact ob_mono (by omega) x (h x e)
  · have : x = o := by simpa using e
    rw [this]; exact ho
theorem Wf.set {S : Sto} {o : Ob} {l : Nat} (h : Wf S) (ho : o.bel S.length = true) : Wf (S.set l o) := by
  intro x hx
  rw [List.length_set]
  rcases List.mem_or_eq_of_mem_set hx with e | e
  · exact h x e
  · rw [e]; exact ho
theorem gc_wf {S T : Sto} {d : D} {n : Nat} (h : Wf S) (hn : S.length = n) (hd : d.bel n = true) : gc n d (S ++ T) = (d, S) := by
  subst hn
  unfold gc
  have e : (S ++ T).take S.length = S := by simp
  rw [e, hd]
  have : (S.all fun o => o.bel S.length) = true := List.all_eq_true.mpr h
  rw [this]; rfl
theorem belL_ints {n : Nat} : ∀ (is : List Int), D.belL n (is.map .int) = true
  | [] => rfl
  | i :: is => by
    show (D.bel n (.int i) && D.belL n (is.map .int)) = true
    rw [belL_ints is]; rfl
/-! ### the second way of drawing -/
structure Nx (p q n : Nat) (S : Sto) : Prop where
  wf : Wf S
  ex : ∃ (nums : List Int) (i r s : Int), S[p]? = some (.lst (nums.map .int)) ∧ S[q]? = some (.lst [.loc p, .int i, .int r, .int s]) ∧ nums ≠ [] ∧ nums.length ≤ 1000 ∧ 0 ≤ i ∧ i ≤ n ∧ 0 ≤ s ∧ s < 2 ^ 61
  ne : p ≠ q
/-- all objects but the one at q stand as they were -/
def Same (q : Nat) (S S' : Sto) : Prop := S'.length = S.length ∧ ∀ l, l ≠ q → S'[l]? = S[l]?
theorem Same.refl (q : Nat) (S : Sto) : Same q S S := ⟨rfl, fun _ _ => rfl⟩
theorem Same.trans {q : Nat} {S S1 S2 : Sto} (a : Same q S S1) (b : Same q S1 S2) : Same q S S2 := ⟨b.1.trans a.1, fun l h => (b.2 l h).trans (a.2 l h)⟩
theorem Same.set {q : Nat} {S : Sto} {o : Ob} : Same q S (S.set q o) := ⟨by simp, fun l h => by rw [List.getElem?_set_ne (Ne.symm h)]⟩
theorem Nx.mono {p q n m : Nat} {S : Sto} (h : Nx p q n S) (hm : n ≤ m) : Nx p q m S := by
  obtain ⟨wf, ⟨nums, i, r, s, h1, h2, h3, h4, h5, h6, h7, h8⟩, ne⟩ := h
  exact ⟨wf, ⟨nums, i, r, s, h1, h2, h3, h4, h5, by omega, h7, h8⟩, ne⟩
theorem Nx.lt {p q n : Nat} {S : Sto} (h : Nx p q n S) : p < S.length ∧ q < S.length := by
  obtain ⟨wf, ⟨nums, i, r, s, h1, h2, _⟩, ne⟩ := h
  exact ⟨(List.getElem?_eq_some_iff.mp h1).1, (List.getElem?_eq_some_iff.mp h2).1⟩
theorem Nx.app {p q n : Nat} {S : Sto} {o : Ob} (h : Nx p q n S) (ho : o.bel (S.length + 1) = true) : Nx p q n (S ++ [o]) := by
  obtain ⟨wf, ⟨nums, i, r, s, h1, h2, h3⟩, ne⟩ := h
  exact ⟨wf.app ho, ⟨nums, i, r, s, get_app_lt h1, get_app_lt h2, h3⟩, ne⟩
theorem Nx.set {p q n l : Nat} {S : Sto} {o : Ob} (h : Nx p q n S) (ho : o.bel S.length = true) (hp : l ≠ p) (hq : l ≠ q) : Nx p q n (S.set l o) := by
  obtain ⟨wf, ⟨nums, i, r, s, h1, h2, h3⟩, ne⟩ := h
  exact ⟨wf.set ho, ⟨nums, i, r, s, by rw [List.getElem?_set_ne hp]; exact h1, by rw [List.getElem?_set_ne hq]; exact h2, h3⟩, ne⟩
/-! a fraction over what is above nought -/
/-! ### alike, by turns -/
end ML

namespace ML
open PySem PySem.Spec PyProof.Rows L2
/-! ### the deck with the longer mixing -/
/-! ### the third way to the greatest part -/
end ML

namespace ML
open PySem PySem.Spec PyProof.Rows L2
/-! ### from what is wanted at the end back to the begin -/
def wE (f : Den) (env : En) (S : Sto) (Q : D → Sto → Prop) : Prop := ∃ d S', f env S = some (d, S') ∧ Q d S'
def wA (f : ADen) (env : En) (S : Sto) (Q : List D → Sto → Prop) : Prop := ∃ d S', f env S = some (d, S') ∧ Q d S'
def wT (f : TDen) (env : En) (S : Sto) (Q : Bool → Sto → Prop) : Prop := ∃ d S', f env S = some (d, S') ∧ Q d S'
def wS (f : SDen) (env : En) (S : Sto) (Q : Fl → En → Sto → Prop) : Prop := ∃ o e S', f env S = some (o, e, S') ∧ Q o e S'
def wF (F : Fn) (ds : List D) (S : Sto) (Q : D → Sto → Prop) : Prop := ∃ d S', F ds S = some (d, S') ∧ Q d S'
def w2 (g : Op2) (a b : D) (S : Sto) (Q : D → Sto → Prop) : Prop := ∃ d S', g a b S = some (d, S') ∧ Q d S'
def w1 (g : Op1) (a : D) (S : Sto) (Q : D → Sto → Prop) : Prop := ∃ d S', g a S = some (d, S') ∧ Q d S'
def wM (g : Mt) (a : D) (ds : List D) (S : Sto) (Q : D → Sto → Prop) : Prop := ∃ d S', g a ds S = some (d, S') ∧ Q d S'
def wG (g : GDen) (d : D) (env : En) (S : Sto) (Q : En → Sto → Prop) : Prop := ∃ e S', g d env S = some (e, S') ∧ Q e S'
def wGs (g : GsDen) (d : List D) (env : En) (S : Sto) (Q : En → Sto → Prop) : Prop := ∃ e S', g d env S = some (e, S') ∧ Q e S'
def wI (g : IDen) (env : En) (S : Sto) (Q : List D → List (Nat × Ob) → Sto → Prop) : Prop := ∃ it S', g env S = some (it, S') ∧ Q it.ds it.src S'
def wO (g : ODen) (env : En) (S : Sto) (Q : Option Int → Sto → Prop) : Prop := ∃ d S', g env S = some (d, S') ∧ Q d S'
def wR (src : List (Nat × Ob)) (g : GDen) (b : SDen) (ds : List D) (env : En) (S : Sto) (Q : Fl → En → Sto → Prop) : Prop := ∃ o e S', fRun src g b ds env S = some (o, e, S') ∧ Q o e S'
def wL (src : List (Nat × Ob)) (g : GDen) (t : TDen) (f : Den) (env : En) (ds acc : List D) (S : Sto) (Q : List D → Sto → Prop) : Prop := ∃ d S', lcRun src g t f env ds acc S = some (d, S') ∧ Q d S'
def wTru (d : D) (S : Sto) (Q : Bool → Sto → Prop) : Prop := ∃ k, truD d S = some k ∧ Q k S
/-- a fork -/
def wB (b : Bool) (A B : Prop) : Prop := if b = true then A else B
/-- a tuple that fits -/
def wLen (xs : List D) (A : Prop) : Prop := xs.length ≤ sizeLine ∧ A
def kC (c : SDen) (Q : Fl → En → Sto → Prop) : Fl → En → Sto → Prop
  | .nx, e, S => wS c e S Q
  | o, e, S => Q o e S
def kAB (Q : Bool → Sto → Prop) : D → Sto → Prop
  | .bl k, S => Q k S
  | _, _ => False
def kP (i j : Nat) (env : En) (Q : Fl → En → Sto → Prop) : List D → Sto → Prop
  | [a, b], S => Q .nx ((env.set i (some a)).set j (some b)) S
  | _, _ => False
def kP3 (i j l : Nat) (env : En) (Q : Fl → En → Sto → Prop) : List D → Sto → Prop
  | [a, b, c], S => Q .nx (((env.set i (some a)).set j (some b)).set l (some c)) S
  | _, _ => False
/-- o[i] = d -/
def wPut (d x y : D) (env : En) (S : Sto) (Q : En → Sto → Prop) : Prop := ∃ l i xs j, x = .loc l ∧ y = .int i ∧ S[l]? = some (.lst xs) ∧ ixN xs.length i = some j ∧ Q env (S.set l (.lst (xs.set j d)))
/-- x[lo:hi] -/
def wSl (x : D) (lo hi : Option Int) (S : Sto) (Q : D → Sto → Prop) : Prop := (∃ xs, x = .tup xs ∧ Q (.tup (cutD xs lo hi)) S) ∨ ∃ l xs, x = .loc l ∧ lsAt S l = some xs ∧ Q (.loc S.length) (S ++ [.lst (cutD xs lo hi)])
def wLi (x : D) (S : Sto) (Q : List D → Sto → Prop) : Prop := ∃ xs, (x = .tup xs ∨ ∃ l, x = .loc l ∧ lsAt S l = some xs) ∧ Q xs S
def wTup (xs : List D) (S : Sto) (Q : D → Sto → Prop) : Prop := xs.length ≤ sizeLine ∧ Q (.tup xs) S
def asT : D → Option (List D)
  | .tup xs => some xs
  | _ => none
def wSeq (x : D) (S : Sto) (Q : List D → List (Nat × Ob) → Sto → Prop) : Prop := (∃ ys, x = .tup ys ∧ Q ys [] S) ∨ ∃ l ys, x = .loc l ∧ S[l]? = some (.lst ys) ∧ Q ys [(l, .lst ys)] S
def wZip (xs : List D) (S : Sto) (Q : List D → List (Nat × Ob) → Sto → Prop) : Prop := (∃ us vs, xs = [.tup us, .tup vs] ∧ Q (zipD us vs) [] S) ∨ ∃ l m us vs, xs = [.loc l, .loc m] ∧ S[l]? = some (.lst us) ∧ S[m]? = some (.lst vs) ∧ Q (zipD us vs) [(l, .lst us), (m, .lst vs)] S
/-- what a def's end hands out -/
def kR (n : Nat) (Q : D → Sto → Prop) : Fl → En → Sto → Prop
  | .rt d, _, S => Q (gc n d S).1 (gc n d S).2
  | .nx, _, S => Q (gc n .non S).1 (gc n .non S).2
  | _, _, _ => False
inductive SetR : En → Nat → D → En → Prop where
  | z {x : Option D} {e : En} {d : D} : SetR (x :: e) 0 d (some d :: e)
  | s {x : Option D} {e e' : En} {n : Nat} {d : D} : SetR e n d e' → SetR (x :: e) (n + 1) d (x :: e')
theorem SetR.eq : ∀ {e : En} {n : Nat} {d : D} {e' : En}, SetR e n d e' → e.set n (some d) = e'
  | _, _, _, _, .z => rfl
  | _, _, _, _, .s h => by rw [List.set_cons_succ, h.eq]
inductive NoneR : En → Nat → En → Prop where
  | z {x : Option D} {e : En} : NoneR (x :: e) 0 (none :: e)
  | s {x : Option D} {e e' : En} {n : Nat} : NoneR e n e' → NoneR (x :: e) (n + 1) (x :: e')
theorem NoneR.eq : ∀ {e : En} {n : Nat} {e' : En}, NoneR e n e' → e.set n none = e'
  | _, _, _, .z => rfl
  | _, _, _, .s h => by rw [List.set_cons_succ, h.eq]
inductive WipeR : En → List Nat → En → Prop where
  | z {e : En} : WipeR e [] e
  | s {e e1 e' : En} {n : Nat} {r : List Nat} : WipeR e r e1 → NoneR e1 n e' → WipeR e (n :: r) e'
theorem WipeR.eq : ∀ {e : En} {n : List Nat} {e' : En}, WipeR e n e' → wipeE e n = e'
  | _, _, _, .z => rfl
  | _, _, _, .s h h' => by rw [wipeE, h.eq, h'.eq]
inductive RepR : Nat → En → Prop where
  | z : RepR 0 []
  | s {n : Nat} {e : En} : RepR n e → RepR (n + 1) (none :: e)
theorem RepR.eq : ∀ {n : Nat} {e : En}, RepR n e → e = List.replicate n none
  | _, _, .z => rfl
  | _, _, .s h => by rw [h.eq]; rfl
inductive InitR : List D → Nat → En → Prop where
  | z {n : Nat} {e : En} : RepR n e → InitR [] n e
  | s {x : D} {xs : List D} {n : Nat} {e : En} : InitR xs n e → InitR (x :: xs) (n + 1) (some x :: e)
theorem InitR.eq : ∀ {xs : List D} {n : Nat} {e : En}, InitR xs n e → xs.map some ++ List.replicate (n - xs.length) none = e
  | _, _, _, .z h => by rw [h.eq]; rfl
  | _, _, _, .s (n := n) (xs := xs) h => by
    rw [List.map_cons, List.cons_append, List.length_cons, Nat.add_sub_add_right, h.eq]
section
variable {env env' env2 : En} {S S' : Sto} {f g h0 : Den} {t u : TDen} {a : ADen} {d x y z : D} {b c : SDen} {op : Op2} {o1 : Op1} {F : Fn} {gg : GDen} {gs : GsDen} {it : IDen}
variable {Q : D → Sto → Prop} {QA : List D → Sto → Prop} {QT : Bool → Sto → Prop} {QS : Fl → En → Sto → Prop} {QG : En → Sto → Prop} {QO : Option Int → Sto → Prop} {QI : List D → List (Nat × Ob) → Sto → Prop} {i j l n : Nat} {xs ys : List D} {A B : Prop} {k : Bool}
theorem wS_mono {Q' : Fl → En → Sto → Prop} (h : wS b env S QS) (m : ∀ o e S', QS o e S' → Q' o e S') : wS b env S Q' := by
  obtain ⟨o, e, S', e1, q⟩ := h; exact ⟨o, e, S', e1, m _ _ _ q⟩
theorem w_cut (P : En → Sto → Prop) (h : wS b env S fun o e T => o = .nx ∧ P e T) (k : ∀ e T, P e T → QS .nx e T) : wS b env S QS := wS_mono h fun _ _ _ ⟨a, q⟩ => by subst a; exact k _ _ q
theorem w_E (h : f env S = some (d, S')) (q : Q d S') : wE f env S Q := ⟨_, _, h, q⟩
theorem w_F (h : F xs S = some (d, S')) (q : Q d S') : wF F xs S Q := ⟨_, _, h, q⟩
theorem w_2 (h : op x y S = some (d, S')) (q : Q d S') : w2 op x y S Q := ⟨_, _, h, q⟩
theorem w_var (h : env[i]? = some (some d)) (q : Q d S) : wE (eVar i) env S Q := ⟨d, S, by unfold eVar; rw [h], q⟩
theorem w_c (q : Q d S) : wE (eC d) env S Q := ⟨d, S, rfl, q⟩
theorem w_op (h : wE f env S fun x S1 => wE g env S1 fun y S2 => w2 op x y S2 Q) : wE (eOp op f g) env S Q := by
  obtain ⟨x, S1, e1, y, S2, e2, d, S3, e3, q⟩ := h
  exact ⟨d, S3, by rw [x_op, e1, Option.bind_some, e2]; exact e3, q⟩
theorem w_un (h : wE f env S fun x S1 => w1 o1 x S1 Q) : wE (eUn o1 f) env S Q := by
  obtain ⟨x, S1, e1, d, S3, e3, q⟩ := h
  exact ⟨d, S3, by rw [x_un, e1]; exact e3, q⟩
theorem w_anil (q : QA [] S) : wA aNil env S QA := ⟨[], S, rfl, q⟩
theorem w_acons (h : wE f env S fun x S1 => wA a env S1 fun xs S2 => QA (x :: xs) S2) : wA (aCons f a) env S QA := by
  obtain ⟨x, S1, e1, y, S2, e2, q⟩ := h
  exact ⟨x :: y, S2, by rw [x_acons, e1, Option.bind_some, e2]; rfl, q⟩
theorem w_tup2 (h : wA a env S fun xs S1 => wTup xs S1 Q) : wE (eTup a) env S Q := by
  obtain ⟨x, S1, e1, hl, q⟩ := h
  exact ⟨.tup x, S1, by rw [x_tup, e1, Option.bind_some, if_pos hl], q⟩
theorem wTup_any (q : Q (.tup xs) S) (h : xs.length ≤ 1000 := by exact Nat.le_of_ble_eq_true rfl) : wTup xs S Q := ⟨line_pos h, q⟩
theorem wTup_q0 (k : Q (rq 0) S) : wTup [.int 0, .int 1] S Q := wTup_any k
theorem wTup_q1 (k : Q (rq 1) S) : wTup [.int 1, .int 1] S Q := wTup_any k
theorem wTup_q2 (k : Q (rq 2) S) : wTup [.int 2, .int 1] S Q := wTup_any k
theorem wTup_qm1 (k : Q (rq (-1)) S) : wTup [.int (-1), .int 1] S Q := wTup_any k
theorem wTup_qm2 (k : Q (rq (-2)) S) : wTup [.int (-2), .int 1] S Q := wTup_any k
theorem wTup_q (q : Rat) (k : Q (rq q) S) : wTup [.int q.num, .int q.den] S Q := wTup_any k
theorem wTup_p {a b c : Rat} (k : Q (rp a b c) S) : wTup [rq a, rq b, rq c] S Q := wTup_any k
theorem w_c0 (k : Q (rq 0) S) : wE (eC (.tup [.int 0, .int 1])) env S Q := w_E rfl k
theorem w_c1 (k : Q (rq 1) S) : wE (eC (.tup [.int 1, .int 1])) env S Q := w_E rfl k
theorem w_len (q : A) (h : xs.length ≤ 1000 := by decide) : wLen xs A := ⟨line_pos h, q⟩
theorem w_call (h : wA a env S fun xs S1 => wF F xs S1 Q) : wE (eCall F a) env S Q := by
  obtain ⟨x, S1, e1, d, S2, e2, q⟩ := h
  exact ⟨d, S2, by rw [x_call, e1, Option.bind_some, e2], q⟩
theorem w_eif (h : wT t env S fun k S1 => wB k (wE f env S1 Q) (wE g env S1 Q)) : wE (eIf t f g) env S Q := by
  obtain ⟨k, S1, e1, h⟩ := h
  unfold wB at h
  split at h
  · rename_i hk
    obtain ⟨d, S2, e2, q⟩ := h
    exact ⟨d, S2, by rw [x_if, e1, Option.bind_some, if_pos hk, e2], q⟩
  · rename_i hk
    obtain ⟨d, S2, e2, q⟩ := h
    exact ⟨d, S2, by rw [x_if, e1, Option.bind_some, if_neg hk, e2], q⟩
theorem w_eand (h : wE f env S fun x S1 => wTru x S1 fun k S2 => wB k (wE g env S1 Q) (Q x S1)) : wE (eAnd f g) env S Q := by
  obtain ⟨x, S1, e1, k, e2, h⟩ := h
  unfold wB at h
  split at h
  · rename_i hk
    obtain ⟨d, S2, e3, q⟩ := h
    exact ⟨d, S2, by rw [x_and, e1, Option.bind_some, e2, Option.bind_some, if_pos hk, e3], q⟩
  · rename_i hk
    exact ⟨x, S1, by rw [x_and, e1, Option.bind_some, e2, Option.bind_some, if_neg hk], h⟩
theorem w_eor (h : wE f env S fun x S1 => wTru x S1 fun k S2 => wB k (Q x S1) (wE g env S1 Q)) : wE (eOr f g) env S Q := by
  obtain ⟨x, S1, e1, k, e2, h⟩ := h
  unfold wB at h
  split at h
  · rename_i hk
    exact ⟨x, S1, by rw [x_or, e1, Option.bind_some, e2, Option.bind_some, if_pos hk], h⟩
  · rename_i hk
    obtain ⟨d, S2, e3, q⟩ := h
    exact ⟨d, S2, by rw [x_or, e1, Option.bind_some, e2, Option.bind_some, if_neg hk, e3], q⟩
theorem w_enot (h : wE f env S fun x S1 => wTru x S1 fun k S2 => Q (.bl (!k)) S1) : wE (eNot f) env S Q := by
  obtain ⟨x, S1, e1, k, e2, h⟩ := h
  exact ⟨_, S1, by rw [x_not, e1, Option.bind_some, e2, Option.bind_some], h⟩
theorem w_tru (h : wE f env S fun x S1 => wTru x S1 QT) : wT (tTru f) env S QT := by
  obtain ⟨x, S1, e1, k, e2, h⟩ := h
  exact ⟨k, S1, by rw [x_tru, e1, Option.bind_some, e2]; rfl, h⟩
theorem w_asB (h : wE f env S (kAB QT)) : wT (asB f) env S QT := by
  obtain ⟨x, S1, e1, h⟩ := h
  cases x with
  | bl k => exact ⟨k, S1, by rw [x_asB, e1]; rfl, h⟩
  | _ => exact h.elim
theorem kAB_bl (q : QT k S) : kAB QT (.bl k) S := q
theorem wTru_bl (q : QT k S) : wTru (.bl k) S QT := ⟨k, rfl, q⟩
theorem wTru_int {i : Int} (q : QT (i != 0) S) : wTru (.int i) S QT := ⟨_, rfl, q⟩
theorem wTru_non (q : QT false S) : wTru .non S QT := ⟨_, rfl, q⟩
theorem w_tand (h : wT t env S fun k S1 => wB k (wT u env S1 QT) (QT false S1)) : wT (ML.tAnd t u) env S QT := by
  obtain ⟨k, S1, e1, h⟩ := h
  unfold wB at h
  split at h
  · rename_i hk
    obtain ⟨d, S2, e2, q⟩ := h
    exact ⟨d, S2, by rw [x_tand, e1, Option.bind_some, if_pos hk, e2], q⟩
  · rename_i hk
    exact ⟨false, S1, by rw [x_tand, e1, Option.bind_some, if_neg hk], h⟩
theorem w_tor (h : wT t env S fun k S1 => wB k (QT true S1) (wT u env S1 QT)) : wT (ML.tOr t u) env S QT := by
  obtain ⟨k, S1, e1, h⟩ := h
  unfold wB at h
  split at h
  · rename_i hk
    exact ⟨true, S1, by rw [x_tor, e1, Option.bind_some, if_pos hk], h⟩
  · rename_i hk
    obtain ⟨d, S2, e2, q⟩ := h
    exact ⟨d, S2, by rw [x_tor, e1, Option.bind_some, if_neg hk, e2], q⟩
theorem w_tnot (h : wT t env S fun k S1 => QT (!k) S1) : wT (ML.tNot t) env S QT := by
  obtain ⟨k, S1, e1, h⟩ := h
  exact ⟨_, S1, by rw [x_tnot, e1, Option.bind_some], h⟩
theorem w_tyes (q : QT true S) : wT ML.tYes env S QT := ⟨_, _, rfl, q⟩
theorem wB_t (q : A) : wB true A B := q
theorem wB_f (q : B) : wB false A B := (if_neg (by decide)).mpr q
theorem wB_not (q : wB k B A) : wB (!k) A B := by cases k <;> exact q
theorem wB_dec {p : Prop} [Decidable p] (h : p → A) (h' : ¬ p → B) : wB (decide p) A B := by
  by_cases c : p
  · rw [decide_eq_true c]; exact h c
  · rw [decide_eq_false c]; exact wB_f (h' c)
theorem wB_yes {p : Prop} [Decidable p] (c : p) (h : A) : wB (decide p) A B := by rw [decide_eq_true c]; exact h
theorem wB_no {p : Prop} [Decidable p] (c : ¬ p) (h : B) : wB (decide p) A B := by rw [decide_eq_false c]; exact wB_f h
theorem wB_any (h : k = true → A) (h' : k = false → B) : wB k A B := by cases k; exact wB_f (h' rfl); exact h rfl
theorem w_own (h : wA a env S fun xs S1 => Q (.loc S1.length) (S1 ++ [.lst xs])) : wE (eOwn a) env S Q := by
  obtain ⟨x, S1, e1, q⟩ := h
  exact ⟨_, _, by rw [x_own, e1]; rfl, q⟩
theorem w_ulst (h : wA a env S fun xs S1 => wLen xs (QA xs S1)) : wA (uLst a) env S QA := by
  obtain ⟨x, S1, e1, hl, q⟩ := h
  exact ⟨x, S1, by rw [x_ulst, e1, Option.bind_some, if_pos hl], q⟩
theorem w_uix (h : wA a env S fun xs S1 => wE f env S1 fun y S2 => w2 gIx (.tup xs) y S2 Q) : wE (eUIx a f) env S Q := by
  obtain ⟨x, S1, e1, y, S2, e2, d, S3, e3, q⟩ := h
  cases y with
  | int i =>
    simp at e3
    obtain ⟨d', e4, rfl, rfl⟩ := e3
    exact ⟨d', S2, by rw [x_uix, e1, Option.bind_some, e2, Option.bind_some]; simp only; rw [e4]; rfl, q⟩
  | _ => simp [gIx] at e3
theorem w_u {F : Fn} (h : wA a env S fun xs S1 => wF F xs S1 Q) : wE (eU F a) env S Q := by
  obtain ⟨x, S1, e1, d, S2, e2, q⟩ := h
  exact ⟨d, S2, by rw [x_u, e1, Option.bind_some, e2], q⟩
theorem w_snil (q : QS .nx env S) : wS sNil env S QS := ⟨_, _, _, rfl, q⟩
theorem w_scons (h : wS b env S (kC c QS)) : wS (sCons b c) env S QS := by
  obtain ⟨o, e, S1, e1, h⟩ := h
  cases o with
  | nx =>
    obtain ⟨o, e', S2, e2, q⟩ := h
    exact ⟨o, e', S2, by rw [x_scons, e1]; exact e2, q⟩
  | _ => exact ⟨_, e, S1, by rw [x_scons, e1]; rfl, h⟩
theorem kC_nx (q : wS c env S QS) : kC c QS .nx env S := q
theorem kC_rt (q : QS (.rt d) env S) : kC c QS (.rt d) env S := q
theorem w_asg (h : wE f env S fun d S1 => wG gg d env S1 fun e S2 => QS .nx e S2) : wS (sAsg f gg) env S QS := by
  obtain ⟨x, S1, e1, e, S2, e2, q⟩ := h
  exact ⟨_, e, S2, by rw [x_asg, e1, Option.bind_some, e2]; rfl, q⟩
theorem w_asgU (h : wA a env S fun xs S1 => wG (ML.gName i) (.loc S1.length) env (S1 ++ [.lst xs]) fun e S2 => QS .nx e S2) : wS (sAsgU a i) env S QS := by
  obtain ⟨x, S1, e1, e, S2, e2, q⟩ := h
  cases e2
  exact ⟨_, _, _, by rw [x_asgU, e1]; rfl, q⟩
theorem w_gname (h : SetR env i d env') (q : QG env' S) : wG (ML.gName i) d env S QG := ⟨_, _, rfl, by rw [h.eq]; exact q⟩
theorem w_gtup (hl : xs.length = n) (h : wGs gs xs env S QG) : wG (ML.gTup n gs) (.tup xs) env S QG := by
  obtain ⟨e, S1, e1, q⟩ := h
  exact ⟨e, S1, by rw [x_gtup, if_pos hl, e1], q⟩
theorem w_gtupT (h0 : asT x = some xs) (hl : xs.length = n) (h : wGs gs xs env S QG) : wG (ML.gTup n gs) x env S QG := by
  cases x with
  | tup us => cases h0; exact w_gtup hl h
  | _ => cases h0
theorem w_gtupL (hl : xs.length = n) (h : wGs gs xs env S QG) : wG (gTupL n gs) (.tup xs) env S QG := by
  obtain ⟨e, S1, e1, q⟩ := h
  exact ⟨e, S1, by show (if xs.length = n then gs xs env S else none) = _; rw [if_pos hl, e1], q⟩
theorem w_gtupLl (h0 : lsAt S l = some xs) (hl : xs.length = n) (h : wGs gs xs env S QG) : wG (gTupL n gs) (.loc l) env S QG := by
  obtain ⟨e, S1, e1, q⟩ := h
  exact ⟨e, S1, by
    show (match lsAt S l with
      | some ds => if ds.length = n then gs ds env S else none
      | none => none) = _
    rw [h0]
    simp only
    rw [if_pos hl, e1], q⟩
theorem w_put {fo fi : Den} (h : wE fo env S fun x S1 => wE fi env S1 fun y S2 => wPut d x y env S2 QG) : wG (gPut fo fi) d env S QG := by
  obtain ⟨x, S1, e1, y, S2, e2, l, i, xs, j, rfl, rfl, e3, e4, q⟩ := h
  exact ⟨env, _, by unfold gPut; rw [e1, Option.bind_some, e2, Option.bind_some]; simp only; rw [e3]; simp only; rw [e4]; rfl, q⟩
theorem wPut_l {i : Int} {j : Nat} (h1 : S[l]? = some (.lst xs)) (h2 : ixN xs.length i = some j) (h3 : xs.set j d = ys) (q : QG env (S.set l (.lst ys))) : wPut d (.loc l) (.int i) env S QG := ⟨l, i, xs, j, rfl, rfl, h1, h2, by rw [h3]; exact q⟩
theorem w_gnil (q : QG env S) : wGs ML.gNil [] env S QG := ⟨_, _, rfl, q⟩
theorem w_gcons (h : wG gg d env S fun e S1 => wGs gs xs e S1 QG) : wGs (ML.gCons gg gs) (d :: xs) env S QG := by
  obtain ⟨e, S1, e1, e', S2, e2, q⟩ := h
  exact ⟨e', S2, by rw [x_gcons, e1, Option.bind_some, e2], q⟩
theorem w_par (h : wA a env S fun xs S1 => kP i j env QS xs S1) : wS (sPar i j a) env S QS := by
  obtain ⟨x, S1, e1, q⟩ := h
  match x, q with
  | [u, v], q => exact ⟨_, _, _, by rw [x_par, e1]; rfl, q⟩
theorem kP_2 (h : SetR env i x env') (h2 : SetR env' j y env2) (q : QS .nx env2 S) : kP i j env QS [x, y] S := by
  show QS .nx _ S
  rw [h.eq, h2.eq]; exact q
theorem w_par3 (h : wA a env S fun xs S1 => kP3 i j l env QS xs S1) : wS (sPar3 i j l a) env S QS := by
  obtain ⟨x, S1, e1, q⟩ := h
  match x, q with
  | [u, v, w], q => exact ⟨_, _, _, by rw [x_par3, e1]; rfl, q⟩
theorem kP3_3 {env3 : En} (h : SetR env i x env') (h2 : SetR env' j y env2) (h3 : SetR env2 l z env3) (q : QS .nx env3 S) : kP3 i j l env QS [x, y, z] S := by
  show QS .nx _ S
  rw [h.eq, h2.eq, h3.eq]; exact q
theorem w_ret (h : wE f env S fun d S1 => QS (.rt d) env S1) : wS (sRet f) env S QS := by
  obtain ⟨x, S1, e1, q⟩ := h
  exact ⟨_, _, _, by rw [x_ret, e1]; rfl, q⟩
theorem w_retN (q : QS (.rt .non) env S) : wS sRetN env S QS := ⟨_, _, _, rfl, q⟩
theorem w_expr (h : wE f env S fun d S1 => QS .nx env S1) : wS (sExpr f) env S QS := by
  obtain ⟨x, S1, e1, q⟩ := h
  exact ⟨_, _, _, by rw [x_expr, e1]; rfl, q⟩
theorem w_sif (h : wT t env S fun k S1 => wB k (wS b env S1 QS) (wS c env S1 QS)) : wS (sIf t b c) env S QS := by
  obtain ⟨k, S1, e1, h⟩ := h
  unfold wB at h
  split at h
  · rename_i hk
    obtain ⟨o, e, S2, e2, q⟩ := h
    exact ⟨o, e, S2, by rw [x_sif, e1, Option.bind_some, if_pos hk, e2], q⟩
  · rename_i hk
    obtain ⟨o, e, S2, e2, q⟩ := h
    exact ⟨o, e, S2, by rw [x_sif, e1, Option.bind_some, if_neg hk, e2], q⟩
theorem w_bk (q : QS .bk env S) : wS sBk env S QS := ⟨_, _, _, rfl, q⟩
theorem w_ct (q : QS .ct env S) : wS sCt env S QS := ⟨_, _, _, rfl, q⟩
theorem w_aug (h : env[i]? = some (some x)) (q : wE f env S fun y S1 => w2 op x y S1 fun d S2 => wG (ML.gName i) d env S2 fun e S3 => QS .nx e S3) : wS (sAug i op f) env S QS := by
  obtain ⟨y, S1, e1, d, S2, e2, e, S3, e3, q⟩ := q
  cases e3
  exact ⟨_, _, _, by unfold sAug; rw [h]; simp only; rw [e1, Option.bind_some, e2]; rfl, q⟩
theorem w_for (h : wI it env S fun ds src S1 => wR src gg b ds env S1 QS) : wS (sFor it gg b) env S QS := by
  obtain ⟨t, S1, e1, o, e, S2, e2, q⟩ := h
  exact ⟨o, e, S2, by rw [x_for, e1, Option.bind_some, e2], q⟩
/-- what follows a turn -/
def kL (next : En → Sto → Prop) (Q : Fl → En → Sto → Prop) : Fl → En → Sto → Prop
  | .nx, e, S => next e S
  | .ct, e, S => next e S
  | .bk, e, S => Q .nx e S
  | .rt d, e, S => Q (.rt d) e S
theorem kL_nx {N : En → Sto → Prop} (q : N env S) : kL N QS .nx env S := q
theorem kL_ct {N : En → Sto → Prop} (q : N env S) : kL N QS .ct env S := q
theorem kL_bk {N : En → Sto → Prop} (q : QS .nx env S) : kL N QS .bk env S := q
theorem kL_rt {N : En → Sto → Prop} (q : QS (.rt d) env S) : kL N QS (.rt d) env S := q
theorem w_rnil {src : List (Nat × Ob)} (so : srcOk src S) (q : QS .nx env S) : wR src gg b [] env S QS := ⟨_, _, _, by rw [fRun, if_pos so], q⟩
theorem w_rcons {src : List (Nat × Ob)} (so : srcOk src S) (h : wG gg d env S fun e S1 => wS b e S1 (kL (fun e S2 => wR src gg b xs e S2 QS) QS)) : wR src gg b (d :: xs) env S QS := by
  obtain ⟨e, S1, e1, o, e', S2, e2, h⟩ := h
  cases o with
  | nx => obtain ⟨o, e3, S3, e4, q⟩ := h; exact ⟨o, e3, S3, by rw [fRun, if_pos so, e1, Option.bind_some, e2, Option.bind_some]; exact e4, q⟩
  | ct => obtain ⟨o, e3, S3, e4, q⟩ := h; exact ⟨o, e3, S3, by rw [fRun, if_pos so, e1, Option.bind_some, e2, Option.bind_some]; exact e4, q⟩
  | bk => exact ⟨_, _, _, by rw [fRun, if_pos so, e1, Option.bind_some, e2]; rfl, h⟩
  | rt d => exact ⟨_, _, _, by rw [fRun, if_pos so, e1, Option.bind_some, e2]; rfl, h⟩
/-- a for by what holds ahead of each turn -/
theorem w_rinv {src : List (Nat × Ob)} (I : Nat → En → Sto → Prop) (h0 : I 0 env S) (so : ∀ i e S, I i e S → srcOk src S)
    (hs : ∀ i d e S, xs[i]? = some d → I i e S → wG gg d e S fun e1 S1 => wS b e1 S1 (kL (I (i + 1)) QS)) (he : ∀ e S, I xs.length e S → QS .nx e S) : wR src gg b xs env S QS := by
  suffices ∀ (ys : List D) (k : Nat) (env : En) (S : Sto), xs.drop k = ys → k ≤ xs.length → I k env S → wR src gg b ys env S QS from this xs 0 env S rfl (Nat.zero_le _) h0
  intro ys
  induction ys with
  | nil =>
    intro k env S e hk hI
    have : k = xs.length := by
      have := congrArg List.length e
      simp at this; omega
    subst this
    exact w_rnil (so _ _ _ hI) (he _ _ hI)
  | cons y ys ih =>
    intro k env S e hk hI
    have hk2 : k < xs.length := by
      have := congrArg List.length e
      simp at this; omega
    have hy : xs[k]? = some y := by
      have := congrArg (fun l => l[0]?) e
      simpa using this
    have hd : xs.drop (k + 1) = ys := by
      have := congrArg List.tail e
      simpa using this
    refine w_rcons (so _ _ _ hI) ?_
    obtain ⟨e1, S1, a1, o, e2, S2, a2, h⟩ := hs k y env S hy hI
    refine ⟨e1, S1, a1, o, e2, S2, a2, ?_⟩
    cases o with
    | nx => exact ih (k + 1) e2 S2 hd hk2 h
    | ct => exact ih (k + 1) e2 S2 hd hk2 h
    | bk => exact h
    | rt d => exact h
theorem w_ulc {vs : List Nat} (hw : WipeR env vs env') (h : wI it env S fun ds src S1 => wL src gg t f env' ds [] S1 QA) : wA (uLc it gg t f vs) env S QA := by
  rw [← hw.eq] at h
  obtain ⟨p, S1, e1, x, S2, e2, q⟩ := h
  exact ⟨x, S2, by rw [x_lc, e1, Option.bind_some, e2], q⟩
theorem w_lnil {src : List (Nat × Ob)} (so : srcOk src S) (q : QA ys S) : wL src gg t f env [] ys S QA := ⟨_, _, by rw [lcRun, if_pos so], q⟩
theorem w_lnil2 {src : List (Nat × Ob)} (so : srcOk src S) (h : ys = xs) (q : QA xs S) : wL src gg t f env [] ys S QA := by subst h; exact w_lnil so q
theorem w_lcons {src : List (Nat × Ob)} (so : srcOk src S) (hl : ys.length < 1000) (h : wG gg d env S fun e S1 => wT t e S1 fun k S2 => wB k (wE f e S2 fun r S3 => wL src gg t f env xs (ys ++ [r]) S3 QA) (wL src gg t f env xs ys S2 QA)) : wL src gg t f env (d :: xs) ys S QA := by
  obtain ⟨e, S1, e1, k, S2, e2, h⟩ := h
  have hz : ys.length < sizeLine := by rw [sizeLine_eq]; omega
  unfold wB at h
  split at h
  · rename_i hk
    obtain ⟨r, S3, e3, z, S4, e4, q⟩ := h
    exact ⟨z, S4, by rw [lcRun, if_pos so, e1, Option.bind_some, e2, Option.bind_some, if_pos hk, e3, Option.bind_some, if_pos hz, e4], q⟩
  · rename_i hk
    obtain ⟨z, S4, e4, q⟩ := h
    exact ⟨z, S4, by rw [lcRun, if_pos so, e1, Option.bind_some, e2, Option.bind_some, if_neg hk, e4], q⟩
/-- a comprehension without a test, by what holds ahead of each turn -/
theorem w_linv {src : List (Nat × Ob)} (I : Nat → List D → Sto → Prop) (h0 : I 0 [] S) (so : ∀ i ys S, I i ys S → srcOk src S) (hl : xs.length ≤ 1000)
    (hs : ∀ i d ys S, xs[i]? = some d → ys.length ≤ i → I i ys S → wG gg d env S fun e S1 => wT t e S1 fun k S2 => wB k (wE f e S2 fun r S3 => I (i + 1) (ys ++ [r]) S3) (I (i + 1) ys S2)) (he : ∀ ys S, ys.length ≤ xs.length → I xs.length ys S → QA ys S) : wL src gg t f env xs [] S QA := by
  suffices ∀ (zs : List D) (k : Nat) (ys : List D) (S : Sto), xs.drop k = zs → k ≤ xs.length → ys.length ≤ k → I k ys S → wL src gg t f env zs ys S QA from this xs 0 [] S rfl (Nat.zero_le _) (Nat.le_refl _) h0
  intro zs
  induction zs with
  | nil =>
    intro k ys S e hk hy hI
    have : k = xs.length := by
      have := congrArg List.length e
      simp at this; omega
    subst this
    exact w_lnil (so _ _ _ hI) (he _ _ hy hI)
  | cons y zs ih =>
    intro k ys S e hk hl2 hI
    have hk2 : k < xs.length := by
      have := congrArg List.length e
      simp at this; omega
    have hy : xs[k]? = some y := by
      have := congrArg (fun l => l[0]?) e
      simpa using this
    have hd : xs.drop (k + 1) = zs := by
      have := congrArg List.tail e
      simpa using this
    refine w_lcons (so _ _ _ hI) (by omega) ?_
    obtain ⟨e1, S1, a1, o, S2, a2, h⟩ := hs k y ys S hy hl2 hI
    refine ⟨e1, S1, a1, o, S2, a2, ?_⟩
    cases o with
    | true =>
      obtain ⟨r, S3, e3, h⟩ := h
      exact ⟨r, S3, e3, ih (k + 1) (ys ++ [r]) S3 hd hk2 (by simp; omega) h⟩
    | false => exact wB_f (ih (k + 1) ys S2 hd hk2 (by omega) ((if_neg (by decide)).mp h))
/-- a comprehension whose turns leave the store -/
theorem w_lpure {src : List (Nat × Ob)} (p : D → Bool) (r : D → D) (so : srcOk src S) (hl : xs.length ≤ 1000)
    (hs : ∀ d, d ∈ xs → wG gg d env S fun e S1 => wT t e S1 fun k S2 => k = p d ∧ S2 = S ∧ (p d = true → wE f e S fun x S3 => x = r d ∧ S3 = S)) (he : QA ((xs.filter p).map r) S) : wL src gg t f env xs [] S QA := by
  refine w_linv (fun i ys T => T = S ∧ ys = ((xs.take i).filter p).map r) ⟨rfl, by simp⟩ (fun _ _ _ h => by rw [h.1]; exact so) hl ?_ ?_
  · rintro i d ys T hi - ⟨rfl, rfl⟩
    have hm := List.mem_of_getElem? hi
    have ht : xs.take (i + 1) = xs.take i ++ [d] := by rw [List.take_add_one, hi]; rfl
    obtain ⟨e, S1, e1, k, S2, e2, rfl, rfl, h⟩ := hs d hm
    refine ⟨e, S1, e1, _, _, e2, ?_⟩
    cases hp : p d with
    | true =>
      obtain ⟨x, S3, e3, rfl, rfl⟩ := h hp
      exact ⟨_, _, e3, rfl, by rw [ht, List.filter_append, List.map_append]; simp [hp]⟩
    | false => exact wB_f ⟨rfl, by rw [ht, List.filter_append, List.map_append]; simp [hp]⟩
  · rintro ys T - ⟨rfl, rfl⟩
    rw [List.take_length]; exact he
/-- [r for d in xs] -/
theorem w_lmap {src : List (Nat × Ob)} (r : D → D) (so : srcOk src S) (hl : xs.length ≤ 1000)
    (hs : ∀ d, d ∈ xs → wG gg d env S fun e S1 => S1 = S ∧ wE f e S fun x S3 => x = r d ∧ S3 = S) (he : QA (xs.map r) S) : wL src gg ML.tYes f env xs [] S QA := by
  refine w_lpure (fun _ => true) r so hl (fun d hd => ?_) (by rw [List.filter_eq_self.mpr (fun _ _ => rfl)]; exact he)
  obtain ⟨e, S1, e1, rfl, h⟩ := hs d hd
  exact ⟨e, _, e1, _, _, rfl, rfl, rfl, fun _ => h⟩
/-- while by what holds ahead of each test, and what falls -/
theorem w_while (I : En → Sto → Prop) (μ : En → Sto → Nat) (h0 : I env S)
    (hs : ∀ e S, I e S → wT t e S fun k S1 => wB k (wS b e S1 (kL (fun e' S' => I e' S' ∧ μ e' S' < μ e S) QS)) (QS .nx e S1)) : wS (sWhile t b) env S QS := by
  suffices ∀ (n : Nat) (env : En) (S : Sto), μ env S ≤ n → I env S → wS (sWhile t b) env S QS from this (μ env S) env S (Nat.le_refl _) h0
  intro n
  induction n with
  | zero =>
    intro env S hn hI
    obtain ⟨k, S1, e1, h⟩ := hs env S hI
    unfold wB at h
    split at h
    · rename_i hk
      obtain ⟨o, e, S2, e2, h⟩ := h
      cases o with
      | nx => obtain ⟨_, z⟩ := h; omega
      | ct => obtain ⟨_, z⟩ := h; omega
      | bk => exact ⟨_, _, _, by rw [sWhile_eq, e1, Option.bind_some, if_pos hk, e2]; rfl, h⟩
      | rt d => exact ⟨_, _, _, by rw [sWhile_eq, e1, Option.bind_some, if_pos hk, e2]; rfl, h⟩
    · rename_i hk
      exact ⟨_, _, _, by rw [sWhile_eq, e1, Option.bind_some, if_neg hk], h⟩
  | succ n ih =>
    intro env S hn hI
    obtain ⟨k, S1, e1, h⟩ := hs env S hI
    unfold wB at h
    split at h
    · rename_i hk
      obtain ⟨o, e, S2, e2, h⟩ := h
      cases o with
      | nx =>
        obtain ⟨h, z⟩ := h
        obtain ⟨o, e', S3, e3, q⟩ := ih e S2 (by omega) h
        exact ⟨o, e', S3, by rw [sWhile_eq, e1, Option.bind_some, if_pos hk, e2, Option.bind_some]; exact e3, q⟩
      | ct =>
        obtain ⟨h, z⟩ := h
        obtain ⟨o, e', S3, e3, q⟩ := ih e S2 (by omega) h
        exact ⟨o, e', S3, by rw [sWhile_eq, e1, Option.bind_some, if_pos hk, e2, Option.bind_some]; exact e3, q⟩
      | bk => exact ⟨_, _, _, by rw [sWhile_eq, e1, Option.bind_some, if_pos hk, e2]; rfl, h⟩
      | rt d => exact ⟨_, _, _, by rw [sWhile_eq, e1, Option.bind_some, if_pos hk, e2]; rfl, h⟩
    · rename_i hk
      exact ⟨_, _, _, by rw [sWhile_eq, e1, Option.bind_some, if_neg hk], h⟩
theorem rngs_at {lo : Int} {n i : Nat} {d : D} (h : (rngs lo n)[i]? = some d) : d = .int (lo + (i : Int)) ∧ i < n := by
  unfold rngs at h
  rw [List.getElem?_map] at h
  obtain ⟨j, h1, rfl⟩ := Option.map_eq_some_iff.mp h
  obtain ⟨h2, h3⟩ := List.getElem?_eq_some_iff.mp h1
  simp at h2 h3
  exact ⟨by rw [← h3], h2⟩
theorem rngs_len {lo : Int} {n : Nat} : (rngs lo n).length = n := by simp [rngs]
/-! calls -/
theorem w_mk {np ns : Nat} {e0 : En} (hi : InitR xs ns e0) (hl : xs.length = np) (h : wS b e0 S (kR S.length Q)) : wF (mkFn np ns b) xs S Q := by
  have he := hi.eq
  rw [hl] at he
  subst he
  obtain ⟨o, e, S1, e1, h⟩ := h
  cases o with
  | rt d => exact ⟨_, _, by unfold mkFn; rw [if_pos hl, e1]; rfl, h⟩
  | nx => exact ⟨_, _, by unfold mkFn; rw [if_pos hl, e1]; rfl, h⟩
  | _ => exact h.elim
theorem kR_same (q : Q d S) (h : S.length = n := by rfl) : kR n Q (.rt d) env S := by subst h; show Q _ _; rw [gc_self]; exact q
theorem gc_1 : (gc n d S).1 = d := by unfold gc; split <;> rfl
theorem kR_any (q : ∀ S', Q d S') : kR n Q (.rt d) env S := by show Q _ _; rw [gc_1]; exact q _
theorem kR_loc (q : Q (.loc l) S) (h : n ≤ l) : kR n Q (.rt (.loc l)) env S := by
  show Q _ _
  rw [gc_loc h]; exact q
theorem kR_wf {T : Sto} (hw : Wf S) (hd : d.bel n = true) (hn : S.length = n) (q : Q d S) : kR n Q (.rt d) env (S ++ T) := by
  show Q _ _
  rw [gc_wf hw hn hd]; exact q
/-! operators -/
theorem w_add {i j : Int} (q : Q (.int (i + j)) S) : w2 gAdd (.int i) (.int j) S Q := ⟨_, _, rfl, q⟩
theorem w_addI {i j : Int} (q : Q (.int (i + j)) S) : w2 gAddI (.int i) (.int j) S Q := ⟨_, _, rfl, q⟩
theorem w_sub {i j : Int} (q : Q (.int (i - j)) S) : w2 gSub (.int i) (.int j) S Q := ⟨_, _, rfl, q⟩
theorem w_mul {i j : Int} (h : wideM i j) (q : Q (.int (i * j)) S) : w2 gMul (.int i) (.int j) S Q := ⟨_, _, x_mul h, q⟩
theorem w_fdiv {i j : Int} (h : wideD j) (q : Q (.int (i.fdiv j)) S) : w2 gFdiv (.int i) (.int j) S Q := ⟨_, _, x_fdiv h, q⟩
theorem w_mod {i j : Int} (h : j ≠ 0) (q : Q (.int (i.fmod j)) S) : w2 gMod (.int i) (.int j) S Q := ⟨_, _, x_mod h, q⟩
theorem w_neg {i : Int} (q : Q (.int (-i)) S) : w1 gNeg (.int i) S Q := ⟨_, _, rfl, q⟩
theorem w_cmp {p : Int → Int → Bool} {i j : Int} (q : Q (.bl (p i j)) S) : w2 (gCmp p) (.int i) (.int j) S Q := ⟨_, _, rfl, q⟩
theorem w_eqi {i j : Int} (q : Q (.bl (decide (i = j))) S) : w2 cEq (.int i) (.int j) S Q := ⟨_, _, x_eqi, q⟩
theorem w_nei {i j : Int} (q : Q (.bl (!decide (i = j))) S) : w2 cNe (.int i) (.int j) S Q := ⟨_, _, x_nei, q⟩
theorem w_eqq {q r : Rat} (k : Q (.bl (decide (q = r))) S) : w2 cEq (rq q) (rq r) S Q := ⟨_, _, x_eqq, k⟩
theorem w_neq {q r : Rat} (k : Q (.bl (!decide (q = r))) S) : w2 cNe (rq q) (rq r) S Q := ⟨_, _, x_neq, k⟩
theorem w_eqpp {a b c a' b' c' : Rat} (q : Q (.bl (decide (a = a' ∧ b = b' ∧ c = c'))) S) : w2 cEq (rp a b c) (rp a' b' c') S Q := by
  obtain ⟨k, e, hk⟩ := eqP_pd (S := S) (d := rp a b c) (e := rp a' b' c') (n := 2) (m := 2) rfl rfl
  refine ⟨_, _, by rw [cEq, e]; rfl, ?_⟩
  have : decide (a = a' ∧ b = b' ∧ c = c') = k := by
    rw [Bool.eq_iff_iff, hk, decide_eq_true_eq, rp, rp]
    simp only [D.tup.injEq, List.cons.injEq, rq_inj, and_true]
  rw [← this]; exact q
theorem w_isNN (q : Q (.bl true) S) : w2 cIs .non .non S Q := ⟨_, _, rfl, q⟩
theorem w_isnNN (q : Q (.bl false) S) : w2 cIsNot .non .non S Q := ⟨_, _, rfl, q⟩
theorem w_isN (h : cIs d .non S = some (.bl false, S)) (q : Q (.bl false) S) : w2 cIs d .non S Q := ⟨_, _, h, q⟩
theorem w_isnN (h : cIsNot d .non S = some (.bl true, S)) (q : Q (.bl true) S) : w2 cIsNot d .non S Q := ⟨_, _, h, q⟩
theorem w_ix0 (q : Q x S) : w2 gIx (.tup (x :: xs)) (.int 0) S Q := ⟨_, _, by rw [x_ixt, atI_0]; rfl, q⟩
theorem w_ix1 (q : Q y S) : w2 gIx (.tup (x :: y :: xs)) (.int 1) S Q := ⟨_, _, by rw [x_ixt, atI_1]; rfl, q⟩
theorem w_ix2 (q : Q z S) : w2 gIx (.tup (x :: y :: z :: xs)) (.int 2) S Q := ⟨_, _, by rw [x_ixt, atI_2]; rfl, q⟩
theorem w_ix3 (q : Q d S) : w2 gIx (.tup (x :: y :: z :: d :: xs)) (.int 3) S Q := ⟨_, _, by rw [x_ixt, atI_3]; rfl, q⟩
theorem w_ix {i : Int} (h : atI xs i = some d) (q : Q d S) : w2 gIx (.tup xs) (.int i) S Q := ⟨_, _, by rw [x_ixt, h]; rfl, q⟩
theorem w_ixl {i : Int} (h : lsAt S l = some xs) (h2 : atI xs i = some d) (q : Q d S) : w2 gIx (.loc l) (.int i) S Q := ⟨_, _, by rw [x_ixl, h, Option.bind_some, h2]; rfl, q⟩
theorem w_ixq0 {q : Rat} (k : Q (.int q.num) S) : w2 gIx (rq q) (.int 0) S Q := ⟨_, _, ix_q0, k⟩
theorem w_ixq1 {q : Rat} (k : Q (.int q.den) S) : w2 gIx (rq q) (.int 1) S Q := ⟨_, _, ix_q1, k⟩
theorem w_ixp0 {a b c : Rat} (k : Q (rq a) S) : w2 gIx (rp a b c) (.int 0) S Q := ⟨_, _, by rw [rp, x_ixt, atI_0]; rfl, k⟩
theorem w_ixp1 {a b c : Rat} (k : Q (rq b) S) : w2 gIx (rp a b c) (.int 1) S Q := ⟨_, _, by rw [rp, x_ixt, atI_1]; rfl, k⟩
theorem w_ixp2 {a b c : Rat} (k : Q (rq c) S) : w2 gIx (rp a b c) (.int 2) S Q := ⟨_, _, by rw [rp, x_ixt, atI_2]; rfl, k⟩
theorem w_int {i : Int} (q : Q (.int i) S) : wF bInt [.int i] S Q := ⟨_, _, rfl, q⟩
theorem w_intb (q : Q (.int (if k = true then 1 else 0)) S) : wF bInt [.bl k] S Q := ⟨_, _, rfl, q⟩
theorem w_abs {i : Int} (q : Q (.int (i.natAbs : Int)) S) : wF bAbs [.int i] S Q := ⟨_, _, x_abs, q⟩
theorem w_max {i j : Int} (q : Q (.int (max i j)) S) : wF bMax [.int i, .int j] S Q := ⟨_, _, x_max, q⟩
theorem w_min {i j : Int} (q : Q (.int (min i j)) S) : wF bMin [.int i, .int j] S Q := ⟨_, _, x_min, q⟩
theorem w_lent (q : Q (.int xs.length) S) : wF bLen [.tup xs] S Q := ⟨_, _, rfl, q⟩
theorem w_lenl (h : lsAt S l = some xs) (q : Q (.int xs.length) S) : wF bLen [.loc l] S Q := ⟨_, _, by rw [x_lenl, h]; rfl, q⟩
theorem w_tupU (q : Q (.tup xs) S) : wF gTupU xs S Q := ⟨_, _, rfl, q⟩
theorem w_tupUp {a b c : Rat} (q : Q (rp a b c) S) : wF gTupU [rq a, rq b, rq c] S Q := ⟨_, _, rfl, q⟩
theorem w_lenU (q : Q (.int xs.length) S) : wF gLenU xs S Q := ⟨_, _, rfl, q⟩
theorem w_tupt (q : Q (.tup xs) S) : wF bTuple [.tup xs] S Q := ⟨_, _, rfl, q⟩
theorem w_tupl (h : lsAt S l = some xs) (q : Q (.tup xs) S) : wF bTuple [.loc l] S Q := ⟨_, _, by show (lsAt S l).map _ = _; rw [h]; rfl, q⟩
theorem w_mt {g : Mt} (h : wE f env S fun x S1 => isLs S1 x = true ∧ wA a env S1 fun xs S2 => wM g x xs S2 Q) : wE (eMt g f a) env S Q := by
  obtain ⟨x, S1, e1, hl, y, S2, e2, d, S3, e3, q⟩ := h
  exact ⟨d, S3, by unfold eMt; rw [e1, Option.bind_some, if_pos hl, e2, Option.bind_some, e3], q⟩
theorem w_append (h : S[l]? = some (.lst xs)) (hl : xs.length ≤ 1000) (q : Q .non (S.set l (.lst (xs ++ [d])))) : wM mAppend (.loc l) [d] S Q := ⟨_, _, by
  show (match S[l]? with
      | some (.lst xs) => if xs.length < sizeLine then some (D.non, S.set l (Ob.lst (xs ++ [d]))) else none
      | _ => none) = _
  rw [h]
  exact if_pos (by rw [sizeLine_eq]; omega), q⟩
theorem w_sl {lo hi : ODen} (h : wE f env S fun x S1 => wO lo env S1 fun i S2 => wO hi env S2 fun j S3 => wSl x i j S3 Q) : wE (eSl f lo hi) env S Q := by
  obtain ⟨x, S1, e1, i, S2, e2, j, S3, e3, h⟩ := h
  rcases h with ⟨xs, rfl, q⟩ | ⟨l, xs, rfl, e4, q⟩
  · exact ⟨_, _, by rw [x_esl, e1, Option.bind_some, e2, Option.bind_some, e3]; rfl, q⟩
  · exact ⟨_, _, by rw [x_esl, e1, Option.bind_some, e2, Option.bind_some, e3, Option.bind_some]; simp only; rw [e4]; rfl, q⟩
theorem w_onone (q : QO none S) : wO oNone env S QO := ⟨_, _, rfl, q⟩
theorem wSl_t {lo hi : Option Int} (q : Q (.tup (cutD xs lo hi)) S) : wSl (.tup xs) lo hi S Q := .inl ⟨xs, rfl, q⟩
theorem wSl_l {lo hi : Option Int} (h : lsAt S l = some xs) (q : Q (.loc S.length) (S ++ [.lst (cutD xs lo hi)])) : wSl (.loc l) lo hi S Q := .inr ⟨l, xs, rfl, h, q⟩
theorem w_uli (h : wE f env S fun x S1 => wLi x S1 QA) : wA (uLi f) env S QA := by
  obtain ⟨x, S1, e1, xs, h, q⟩ := h
  rcases h with rfl | ⟨l, rfl, e2⟩
  · exact ⟨_, _, by rw [x_li, e1]; rfl, q⟩
  · exact ⟨_, _, by rw [x_li, e1, Option.bind_some]; simp only; rw [e2]; rfl, q⟩
theorem wLi_t (q : QA xs S) : wLi (.tup xs) S QA := ⟨xs, .inl rfl, q⟩
theorem wLi_l (h : lsAt S l = some xs) (q : QA xs S) : wLi (.loc l) S QA := ⟨xs, .inr ⟨l, rfl, h⟩, q⟩
theorem w_addll {m : Nat} (h1 : S[l]? = some (.lst xs)) (h2 : S[m]? = some (.lst ys)) (h : xs.length + ys.length ≤ 1000) (q : Q (.loc S.length) (S ++ [.lst (xs ++ ys)])) : w2 gAdd (.loc l) (.loc m) S Q := ⟨_, _, x_addL h1 h2 h, q⟩
theorem w_pow18 (q : Q (.int 1000000000000000000) S) : w2 gPow (.int 10) (.int 18) S Q := ⟨_, _, x_pow (by decide), q⟩
theorem w_callV {tbl : List (Str × Fn)} {z : Str} {F : Fn} (h1 : env[i]? = some (some (.fn z))) (h2 : tbl.lookup z = some F) (h : wA a env S fun xs S1 => wF F xs S1 Q) : wE (eCallV i tbl a) env S Q := by
  obtain ⟨x, S1, e1, d, S2, e2, q⟩ := h
  exact ⟨d, S2, by unfold eCallV; rw [h1]; simp only; rw [h2]; simp only; rw [e1, Option.bind_some, e2], q⟩
theorem w_isi {t : String} {c : String} (h1 : tyN S d = some t) (h2 : kitB t c = some k) (q : Q (.bl k) S) : wF bIsi [d, .ty c] S Q := ⟨_, _, by rw [x_isi, h1, Option.bind_some, h2]; rfl, q⟩
theorem w_eqd {m : Nat} (h1 : pd n x = true) (h2 : pd m y = true) (q : ∀ k, (k = true ↔ x = y) → Q (.bl k) S) (hn : n ≤ 60 := by decide) (hm : m ≤ 60 := by decide) : w2 cEq x y S Q := by
  obtain ⟨k, e, hk⟩ := eqP_pd (S := S) h1 h2 hn hm
  exact ⟨_, _, by rw [cEq, e]; rfl, q k hk⟩
theorem w_ned {m : Nat} (h1 : pd n x = true) (h2 : pd m y = true) (q : ∀ k, (k = true ↔ x = y) → Q (.bl (!k)) S) (hn : n ≤ 60 := by decide) (hm : m ≤ 60 := by decide) : w2 cNe x y S Q := by
  obtain ⟨k, e, hk⟩ := eqP_pd (S := S) h1 h2 hn hm
  exact ⟨_, _, by rw [cNe, e]; rfl, q k hk⟩
theorem w_mulll {j : Int} (h : S[l]? = some (.lst xs)) (hj : 0 ≤ j ∧ j ≤ 1000 ∧ xs.length * j.toNat ≤ 1000) (q : Q (.loc S.length) (S ++ [.lst (List.replicate j.toNat xs).flatten])) : w2 gMul (.loc l) (.int j) S Q := ⟨_, _, by
  show (match S[l]? with
    | some (.lst x) => if -(2 ^ 63) ≤ j ∧ j < 2 ^ 63 ∧ x.length * j.toNat ≤ sizeLine then some (D.loc S.length, S ++ [Ob.lst (List.replicate j.toNat x).flatten]) else none
    | _ => none) = _
  rw [h]
  simp only
  rw [if_pos ⟨by omega, by omega, by rw [sizeLine_eq]; omega⟩], q⟩
theorem w_eqb {a b : Bool} (q : Q (.bl (decide (a = b))) S) : w2 cEq (.bl a) (.bl b) S Q := ⟨_, _, by
  show (eqP S (.bl a) (.bl b)).map _ = _
  simp only [eqP, toPS, toP, Option.bind_some, sh_bl, Bool.and_self, if_true, Option.map_some, PyData.eqv]
  cases a <;> cases b <;> rfl, q⟩
theorem w_neb {a b : Bool} (q : Q (.bl (!decide (a = b))) S) : w2 cNe (.bl a) (.bl b) S Q := ⟨_, _, by
  show (eqP S (.bl a) (.bl b)).map _ = _
  simp only [eqP, toPS, toP, Option.bind_some, sh_bl, Bool.and_self, if_true, Option.map_some, PyData.eqv]
  cases a <;> cases b <;> rfl, q⟩
/-! what is walked -/
theorem wI_seq (h : wE f env S fun x S1 => wSeq x S1 QI) : wI (iSeq f) env S QI := by
  obtain ⟨x, S1, e1, h⟩ := h
  rcases h with ⟨ys, rfl, q⟩ | ⟨l, ys, rfl, e2, q⟩
  · exact ⟨⟨ys, []⟩, S1, by unfold iSeq; rw [e1]; rfl, q⟩
  · exact ⟨⟨ys, [(l, .lst ys)]⟩, S1, by unfold iSeq; rw [e1, Option.bind_some]; simp only; rw [e2], q⟩
theorem wSeq_t (h : asT x = some xs) (q : QI xs [] S) : wSeq x S QI := by
  cases x with
  | tup us => exact .inl ⟨us, rfl, by rw [Option.some.inj h]; exact q⟩
  | _ => cases h
theorem wSeq_l (h : S[l]? = some (.lst xs)) (q : QI xs [(l, .lst xs)] S) : wSeq (.loc l) S QI := .inr ⟨l, xs, rfl, h, q⟩
theorem wI_zip2 (h : wA a env S fun xs S1 => wZip xs S1 QI) : wI (iZip a) env S QI := by
  obtain ⟨x, S1, e1, h⟩ := h
  rcases h with ⟨us, vs, rfl, q⟩ | ⟨l, m, us, vs, rfl, e2, e3, q⟩
  · exact ⟨⟨zipD us vs, []⟩, S1, by unfold iZip; rw [e1]; rfl, q⟩
  · exact ⟨⟨zipD us vs, [(l, .lst us), (m, .lst vs)]⟩, S1, by unfold iZip; rw [e1, Option.bind_some]; simp only; rw [e2, e3], q⟩
theorem wZip_t (h1 : asT x = some xs) (h2 : asT y = some ys) (q : QI (zipD xs ys) [] S) : wZip [x, y] S QI := by
  cases x with
  | tup us =>
    cases y with
    | tup vs =>
      have e1 := Option.some.inj h1
      have e2 := Option.some.inj h2
      exact .inl ⟨us, vs, rfl, by rw [e1, e2]; exact q⟩
    | _ => cases h2
  | _ => cases h1
theorem wZip_l {m : Nat} (h1 : S[l]? = some (.lst xs)) (h2 : S[m]? = some (.lst ys)) (q : QI (zipD xs ys) [(l, .lst xs), (m, .lst ys)] S) : wZip [.loc l, .loc m] S QI := .inr ⟨l, m, xs, ys, rfl, h1, h2, q⟩
theorem wZip_33 {a b c a' b' c' : Rat} (q : QI [.tup [rq a, rq a'], .tup [rq b, rq b'], .tup [rq c, rq c']] [] S) : wZip [rp a b c, rp a' b' c'] S QI := wZip_t rfl rfl q
theorem wI_u (h : wA a env S fun xs S1 => QI xs [] S1) : wI (iU a) env S QI := by
  obtain ⟨x, S1, e1, q⟩ := h
  exact ⟨⟨x, []⟩, S1, by unfold iU; rw [e1]; rfl, q⟩
theorem wI_r1 (h : wE f env S fun x S1 => ∃ n : Int, x = .int n ∧ (-1000000 ≤ n ∧ n ≤ 1000000) ∧ QI (rngs 0 n.toNat) [] S1) : wI (iRange1 f) env S QI := by
  obtain ⟨x, S1, e1, n, rfl, hn, q⟩ := h
  exact ⟨⟨rngs 0 n.toNat, []⟩, S1, by unfold iRange1; rw [e1, Option.bind_some]; simp only; rw [if_pos (by omega)], q⟩
theorem wI_rc {n : Int} (q : QI (rngs 0 n.toNat) [] S) (hn : -1000000 ≤ n ∧ n ≤ 1000000 := by decide) : wI (iRange1 (eC (.int n))) env S QI :=
  wI_r1 (w_c ⟨n, rfl, hn, q⟩)
theorem wI_r3 (q : QI [.int 0, .int 1, .int 2] [] S) : wI (iRange1 (eC (.int 3))) env S QI := wI_rc q
end
end ML

section
open PySem PySem.Spec PyProof.Rows L2 ML
local macro_rules | `(tactic| infer_instance) => `(tactic| with_reducible refine w_isi (by with_unfolding_all rfl) (by first | exact kit_tt | exact kit_it | exact kit_bt | exact kit_st | exact kit_lt | exact kit_nt | exact kit_ii | exact kit_bi | exact kit_ti | exact kit_si | exact kit_ni | exact kit_ib | exact kit_bb | exact kit_tb | exact kit_sb | exact kit_nb | exact kit_ss | exact kit_is | exact kit_bs | exact kit_ts | exact kit_ns | exact kit_tl | exact kit_ll | exact kit_il | exact kit_nl) ?_)
local macro_rules | `(tactic| infer_instance) => `(tactic| with_reducible (apply w_lnil2 srcOk_nil; (focus ((try simp only [List.nil_append, List.cons_append]); rfl))))
local macro_rules | `(tactic| infer_instance) => `(tactic| with_reducible refine w_lcons srcOk_nil (by with_unfolding_all exact Nat.le_of_ble_eq_true rfl) ?_)
local macro_rules | `(tactic| infer_instance) => `(tactic| with_reducible refine w_rnil srcOk_nil ?_)
local macro_rules | `(tactic| infer_instance) => `(tactic| with_reducible refine w_eqpp ?_)
local macro_rules | `(tactic| infer_instance) => `(tactic| with_reducible refine wSeq_t (by with_unfolding_all rfl) ?_)
local macro_rules | `(tactic| infer_instance) => `(tactic| with_reducible refine wZip_t (by with_unfolding_all rfl) (by with_unfolding_all rfl) ?_)
local macro_rules | `(tactic| infer_instance) => `(tactic| with_reducible refine wZip_33 ?_)
local macro_rules | `(tactic| infer_instance) => `(tactic| with_reducible refine wI_zip2 ?_)
local macro_rules | `(tactic| infer_instance) => `(tactic| with_reducible refine wI_seq ?_)
local macro_rules | `(tactic| infer_instance) => `(tactic| with_reducible refine wI_r3 ?_)
local macro_rules | `(tactic| infer_instance) => `(tactic| with_reducible refine wLi_t ?_)
local macro_rules | `(tactic| infer_instance) => `(tactic| with_reducible refine w_uli ?_)
local macro_rules | `(tactic| infer_instance) => `(tactic| with_reducible refine wSl_t ?_)
local macro_rules | `(tactic| infer_instance) => `(tactic| with_reducible refine w_pow18 ?_)
local macro_rules | `(tactic| infer_instance) => `(tactic| with_reducible refine w_onone ?_)
local macro_rules | `(tactic| infer_instance) => `(tactic| with_reducible refine w_sl ?_)
local macro_rules | `(tactic| infer_instance) => `(tactic| with_reducible refine w_put ?_)
local macro_rules | `(tactic| infer_instance) => `(tactic| with_reducible refine w_gtupL (by with_unfolding_all rfl) ?_)
local macro_rules | `(tactic| infer_instance) => `(tactic| with_reducible refine wI_u ?_)
local macro_rules | `(tactic| infer_instance) => `(tactic| with_reducible refine kL_rt ?_)
local macro_rules | `(tactic| infer_instance) => `(tactic| with_reducible refine kL_bk ?_)
local macro_rules | `(tactic| infer_instance) => `(tactic| with_reducible refine kL_ct ?_)
local macro_rules | `(tactic| infer_instance) => `(tactic| with_reducible refine kL_nx ?_)
local macro_rules | `(tactic| infer_instance) => `(tactic| with_reducible refine wB_not ?_)
local macro_rules | `(tactic| infer_instance) => `(tactic| with_reducible refine wB_f ?_)
local macro_rules | `(tactic| infer_instance) => `(tactic| with_reducible refine wB_t ?_)
local macro_rules | `(tactic| infer_instance) => `(tactic| with_reducible refine w_ct ?_)
local macro_rules | `(tactic| infer_instance) => `(tactic| with_reducible refine w_bk ?_)
local macro_rules | `(tactic| infer_instance) => `(tactic| with_reducible refine w_tyes ?_)
local macro_rules | `(tactic| infer_instance) => `(tactic| with_reducible refine w_tupt ?_)
local macro_rules | `(tactic| infer_instance) => `(tactic| with_reducible refine w_lenU ?_)
local macro_rules | `(tactic| infer_instance) => `(tactic| with_reducible refine w_tupU ?_)
local macro_rules | `(tactic| infer_instance) => `(tactic| with_reducible refine w_tupUp ?_)
local macro_rules | `(tactic| infer_instance) => `(tactic| with_reducible refine w_lent ?_)
local macro_rules | `(tactic| infer_instance) => `(tactic| with_reducible refine w_min ?_)
local macro_rules | `(tactic| infer_instance) => `(tactic| with_reducible refine w_max ?_)
local macro_rules | `(tactic| infer_instance) => `(tactic| with_reducible refine w_abs ?_)
local macro_rules | `(tactic| infer_instance) => `(tactic| with_reducible refine w_intb ?_)
local macro_rules | `(tactic| infer_instance) => `(tactic| with_reducible refine w_int ?_)
local macro_rules | `(tactic| infer_instance) => `(tactic| with_reducible refine w_isnN (by with_unfolding_all rfl) ?_)
local macro_rules | `(tactic| infer_instance) => `(tactic| with_reducible refine w_isN (by with_unfolding_all rfl) ?_)
local macro_rules | `(tactic| infer_instance) => `(tactic| with_reducible refine w_ix3 ?_)
local macro_rules | `(tactic| infer_instance) => `(tactic| with_reducible refine w_ix2 ?_)
local macro_rules | `(tactic| infer_instance) => `(tactic| with_reducible refine w_ix1 ?_)
local macro_rules | `(tactic| infer_instance) => `(tactic| with_reducible refine w_ix0 ?_)
local macro_rules | `(tactic| infer_instance) => `(tactic| with_reducible refine w_ixp2 ?_)
local macro_rules | `(tactic| infer_instance) => `(tactic| with_reducible refine w_ixp1 ?_)
local macro_rules | `(tactic| infer_instance) => `(tactic| with_reducible refine w_ixp0 ?_)
local macro_rules | `(tactic| infer_instance) => `(tactic| with_reducible refine w_ixq1 ?_)
local macro_rules | `(tactic| infer_instance) => `(tactic| with_reducible refine w_ixq0 ?_)
local macro_rules | `(tactic| infer_instance) => `(tactic| with_reducible refine w_isnNN ?_)
local macro_rules | `(tactic| infer_instance) => `(tactic| with_reducible refine w_isNN ?_)
local macro_rules | `(tactic| infer_instance) => `(tactic| with_reducible refine w_neb ?_)
local macro_rules | `(tactic| infer_instance) => `(tactic| with_reducible refine w_eqb ?_)
local macro_rules | `(tactic| infer_instance) => `(tactic| with_reducible refine w_neq ?_)
local macro_rules | `(tactic| infer_instance) => `(tactic| with_reducible refine w_eqq ?_)
local macro_rules | `(tactic| infer_instance) => `(tactic| with_reducible refine w_nei ?_)
local macro_rules | `(tactic| infer_instance) => `(tactic| with_reducible refine w_eqi ?_)
local macro_rules | `(tactic| infer_instance) => `(tactic| with_reducible refine w_cmp ?_)
local macro_rules | `(tactic| infer_instance) => `(tactic| with_reducible refine w_neg ?_)
local macro_rules | `(tactic| infer_instance) => `(tactic| with_reducible refine w_sub ?_)
local macro_rules | `(tactic| infer_instance) => `(tactic| with_reducible refine w_addI ?_)
local macro_rules | `(tactic| infer_instance) => `(tactic| with_reducible refine w_add ?_)
local macro_rules | `(tactic| infer_instance) => `(tactic| with_reducible refine w_mt ?_)
local macro_rules | `(tactic| infer_instance) => `(tactic| with_reducible refine w_aug (by with_unfolding_all rfl) ?_)
local macro_rules | `(tactic| infer_instance) => `(tactic| with_reducible (apply w_ulc; (focus (repeat (first | exact WipeR.z | apply WipeR.s | exact NoneR.z | apply NoneR.s)))))
local macro_rules | `(tactic| infer_instance) => `(tactic| with_reducible refine w_retN ?_)
local macro_rules | `(tactic| infer_instance) => `(tactic| with_reducible refine w_expr ?_)
local macro_rules | `(tactic| infer_instance) => `(tactic| with_reducible refine w_asgU ?_)
local macro_rules | `(tactic| infer_instance) => `(tactic| with_reducible refine w_u ?_)
local macro_rules | `(tactic| infer_instance) => `(tactic| with_reducible refine w_uix ?_)
local macro_rules | `(tactic| infer_instance) => `(tactic| with_reducible refine w_ulst ?_)
local macro_rules | `(tactic| infer_instance) => `(tactic| with_reducible refine w_own ?_)
local macro_rules | `(tactic| infer_instance) => `(tactic| with_reducible (apply kP3_3; (focus (repeat (first | exact SetR.z | apply SetR.s))); (focus (repeat (first | exact SetR.z | apply SetR.s))); (focus (repeat (first | exact SetR.z | apply SetR.s)))))
local macro_rules | `(tactic| infer_instance) => `(tactic| with_reducible refine w_par3 ?_)
local macro_rules | `(tactic| infer_instance) => `(tactic| with_reducible (apply kP_2; (focus (repeat (first | exact SetR.z | apply SetR.s))); (focus (repeat (first | exact SetR.z | apply SetR.s)))))
local macro_rules | `(tactic| infer_instance) => `(tactic| with_reducible refine w_par ?_)
local macro_rules | `(tactic| infer_instance) => `(tactic| with_reducible refine w_gcons ?_)
local macro_rules | `(tactic| infer_instance) => `(tactic| with_reducible refine w_gnil ?_)
local macro_rules | `(tactic| infer_instance) => `(tactic| with_reducible refine w_gtupT (by with_unfolding_all rfl) (by with_unfolding_all rfl) ?_)
local macro_rules | `(tactic| infer_instance) => `(tactic| with_reducible refine w_gtup (by with_unfolding_all rfl) ?_)
local macro_rules | `(tactic| infer_instance) => `(tactic| with_reducible refine w_un ?_)
local macro_rules | `(tactic| infer_instance) => `(tactic| with_reducible refine w_enot ?_)
local macro_rules | `(tactic| infer_instance) => `(tactic| with_reducible refine w_eor ?_)
local macro_rules | `(tactic| infer_instance) => `(tactic| with_reducible refine w_eand ?_)
local macro_rules | `(tactic| infer_instance) => `(tactic| with_reducible refine w_eif ?_)
local macro_rules | `(tactic| infer_instance) => `(tactic| with_reducible refine w_tnot ?_)
local macro_rules | `(tactic| infer_instance) => `(tactic| with_reducible refine w_tor ?_)
local macro_rules | `(tactic| infer_instance) => `(tactic| with_reducible refine w_tand ?_)
local macro_rules | `(tactic| infer_instance) => `(tactic| with_reducible refine wTru_non ?_)
local macro_rules | `(tactic| infer_instance) => `(tactic| with_reducible refine wTru_int ?_)
local macro_rules | `(tactic| infer_instance) => `(tactic| with_reducible refine wTru_bl ?_)
local macro_rules | `(tactic| infer_instance) => `(tactic| with_reducible refine w_tru ?_)
local macro_rules | `(tactic| infer_instance) => `(tactic| with_reducible refine w_for ?_)
local macro_rules | `(tactic| infer_instance) => `(tactic| with_reducible refine w_snil ?_)
local macro_rules | `(tactic| infer_instance) => `(tactic| with_reducible refine kAB_bl ?_)
local macro_rules | `(tactic| infer_instance) => `(tactic| with_reducible refine w_asB ?_)
local macro_rules | `(tactic| infer_instance) => `(tactic| with_reducible refine w_sif ?_)
local macro_rules | `(tactic| infer_instance) => `(tactic| with_reducible refine w_ret ?_)
local macro_rules | `(tactic| infer_instance) => `(tactic| with_reducible refine w_len ?_ (by with_unfolding_all exact Nat.le_of_ble_eq_true rfl))
local macro_rules | `(tactic| infer_instance) => `(tactic| with_reducible refine wTup_any ?_ (by with_unfolding_all exact Nat.le_of_ble_eq_true rfl))
local macro_rules | `(tactic| infer_instance) => `(tactic| with_reducible refine wTup_q _ ?_)
local macro_rules | `(tactic| infer_instance) => `(tactic| with_reducible refine wTup_qm2 ?_)
local macro_rules | `(tactic| infer_instance) => `(tactic| with_reducible refine wTup_qm1 ?_)
local macro_rules | `(tactic| infer_instance) => `(tactic| with_reducible refine wTup_q2 ?_)
local macro_rules | `(tactic| infer_instance) => `(tactic| with_reducible refine wTup_q1 ?_)
local macro_rules | `(tactic| infer_instance) => `(tactic| with_reducible refine wTup_q0 ?_)
local macro_rules | `(tactic| infer_instance) => `(tactic| with_reducible refine wTup_p ?_)
local macro_rules | `(tactic| infer_instance) => `(tactic| with_reducible refine w_tup2 ?_)
local macro_rules | `(tactic| infer_instance) => `(tactic| with_reducible (apply w_gname; (focus (repeat (first | exact SetR.z | apply SetR.s)))))
local macro_rules | `(tactic| infer_instance) => `(tactic| with_reducible refine w_anil ?_)
local macro_rules | `(tactic| infer_instance) => `(tactic| with_reducible refine w_acons ?_)
local macro_rules | `(tactic| infer_instance) => `(tactic| with_reducible refine w_call ?_)
local macro_rules | `(tactic| infer_instance) => `(tactic| with_reducible refine w_c ?_)
local macro_rules | `(tactic| infer_instance) => `(tactic| with_reducible refine w_c1 ?_)
local macro_rules | `(tactic| infer_instance) => `(tactic| with_reducible refine w_c0 ?_)
local macro_rules | `(tactic| infer_instance) => `(tactic| with_reducible refine w_var (by with_unfolding_all rfl) ?_)
local macro_rules | `(tactic| infer_instance) => `(tactic| with_reducible refine w_op ?_)
local macro_rules | `(tactic| infer_instance) => `(tactic| with_reducible refine w_asg ?_)
local macro_rules | `(tactic| infer_instance) => `(tactic| with_reducible refine kC_rt ?_)
local macro_rules | `(tactic| infer_instance) => `(tactic| with_reducible refine kC_nx ?_)
local macro_rules | `(tactic| infer_instance) => `(tactic| with_reducible refine w_scons ?_)
local macro_rules | `(tactic| fail) => `(tactic| with_reducible refine w_isi (by with_unfolding_all rfl) (by first | exact kit_tt | exact kit_it | exact kit_bt | exact kit_st | exact kit_lt | exact kit_nt | exact kit_ii | exact kit_bi | exact kit_ti | exact kit_si | exact kit_ni | exact kit_ib | exact kit_bb | exact kit_tb | exact kit_sb | exact kit_nb | exact kit_ss | exact kit_is | exact kit_bs | exact kit_ts | exact kit_ns | exact kit_tl | exact kit_ll | exact kit_il | exact kit_nl) ?_)
local macro_rules | `(tactic| fail) => `(tactic| with_reducible (apply w_lnil2 srcOk_nil; (focus ((try simp only [List.nil_append, List.cons_append]); rfl))))
local macro_rules | `(tactic| fail) => `(tactic| with_reducible refine w_lcons srcOk_nil (by with_unfolding_all exact Nat.le_of_ble_eq_true rfl) ?_)
local macro_rules | `(tactic| fail) => `(tactic| with_reducible refine w_rnil srcOk_nil ?_)
local macro_rules | `(tactic| fail) => `(tactic| with_reducible refine w_eqpp ?_)
local macro_rules | `(tactic| fail) => `(tactic| with_reducible refine wSeq_t (by with_unfolding_all rfl) ?_)
local macro_rules | `(tactic| fail) => `(tactic| with_reducible refine wZip_t (by with_unfolding_all rfl) (by with_unfolding_all rfl) ?_)
local macro_rules | `(tactic| fail) => `(tactic| with_reducible refine wZip_33 ?_)
local macro_rules | `(tactic| fail) => `(tactic| with_reducible refine wI_zip2 ?_)
local macro_rules | `(tactic| fail) => `(tactic| with_reducible refine wI_seq ?_)
local macro_rules | `(tactic| fail) => `(tactic| with_reducible refine wI_r3 ?_)
local macro_rules | `(tactic| fail) => `(tactic| with_reducible refine wLi_t ?_)
local macro_rules | `(tactic| fail) => `(tactic| with_reducible refine w_uli ?_)
local macro_rules | `(tactic| fail) => `(tactic| with_reducible refine wSl_t ?_)
local macro_rules | `(tactic| fail) => `(tactic| with_reducible refine w_pow18 ?_)
local macro_rules | `(tactic| fail) => `(tactic| with_reducible refine w_onone ?_)
local macro_rules | `(tactic| fail) => `(tactic| with_reducible refine w_sl ?_)
local macro_rules | `(tactic| fail) => `(tactic| with_reducible refine w_put ?_)
local macro_rules | `(tactic| fail) => `(tactic| with_reducible refine w_gtupL (by with_unfolding_all rfl) ?_)
local macro_rules | `(tactic| fail) => `(tactic| with_reducible refine wI_u ?_)
local macro_rules | `(tactic| fail) => `(tactic| with_reducible refine kL_rt ?_)
local macro_rules | `(tactic| fail) => `(tactic| with_reducible refine kL_bk ?_)
local macro_rules | `(tactic| fail) => `(tactic| with_reducible refine kL_ct ?_)
local macro_rules | `(tactic| fail) => `(tactic| with_reducible refine kL_nx ?_)
local macro_rules | `(tactic| fail) => `(tactic| with_reducible refine wB_not ?_)
local macro_rules | `(tactic| fail) => `(tactic| with_reducible refine wB_f ?_)
local macro_rules | `(tactic| fail) => `(tactic| with_reducible refine wB_t ?_)
local macro_rules | `(tactic| fail) => `(tactic| with_reducible refine w_ct ?_)
local macro_rules | `(tactic| fail) => `(tactic| with_reducible refine w_bk ?_)
local macro_rules | `(tactic| fail) => `(tactic| with_reducible refine w_tyes ?_)
local macro_rules | `(tactic| fail) => `(tactic| with_reducible refine w_tupt ?_)
local macro_rules | `(tactic| fail) => `(tactic| with_reducible refine w_lenU ?_)
local macro_rules | `(tactic| fail) => `(tactic| with_reducible refine w_tupU ?_)
local macro_rules | `(tactic| fail) => `(tactic| with_reducible refine w_tupUp ?_)
local macro_rules | `(tactic| fail) => `(tactic| with_reducible refine w_lent ?_)
local macro_rules | `(tactic| fail) => `(tactic| with_reducible refine w_min ?_)
local macro_rules | `(tactic| fail) => `(tactic| with_reducible refine w_max ?_)
local macro_rules | `(tactic| fail) => `(tactic| with_reducible refine w_abs ?_)
local macro_rules | `(tactic| fail) => `(tactic| with_reducible refine w_intb ?_)
local macro_rules | `(tactic| fail) => `(tactic| with_reducible refine w_int ?_)
local macro_rules | `(tactic| fail) => `(tactic| with_reducible refine w_isnN (by with_unfolding_all rfl) ?_)
local macro_rules | `(tactic| fail) => `(tactic| with_reducible refine w_isN (by with_unfolding_all rfl) ?_)
local macro_rules | `(tactic| fail) => `(tactic| with_reducible refine w_ix3 ?_)
local macro_rules | `(tactic| fail) => `(tactic| with_reducible refine w_ix2 ?_)
local macro_rules | `(tactic| fail) => `(tactic| with_reducible refine w_ix1 ?_)
local macro_rules | `(tactic| fail) => `(tactic| with_reducible refine w_ix0 ?_)
local macro_rules | `(tactic| fail) => `(tactic| with_reducible refine w_ixp2 ?_)
local macro_rules | `(tactic| fail) => `(tactic| with_reducible refine w_ixp1 ?_)
local macro_rules | `(tactic| fail) => `(tactic| with_reducible refine w_ixp0 ?_)
local macro_rules | `(tactic| fail) => `(tactic| with_reducible refine w_ixq1 ?_)
local macro_rules | `(tactic| fail) => `(tactic| with_reducible refine w_ixq0 ?_)
local macro_rules | `(tactic| fail) => `(tactic| with_reducible refine w_isnNN ?_)
local macro_rules | `(tactic| fail) => `(tactic| with_reducible refine w_isNN ?_)
local macro_rules | `(tactic| fail) => `(tactic| with_reducible refine w_neb ?_)
local macro_rules | `(tactic| fail) => `(tactic| with_reducible refine w_eqb ?_)
local macro_rules | `(tactic| fail) => `(tactic| with_reducible refine w_neq ?_)
local macro_rules | `(tactic| fail) => `(tactic| with_reducible refine w_eqq ?_)
local macro_rules | `(tactic| fail) => `(tactic| with_reducible refine w_nei ?_)
local macro_rules | `(tactic| fail) => `(tactic| with_reducible refine w_eqi ?_)
local macro_rules | `(tactic| fail) => `(tactic| with_reducible refine w_cmp ?_)
local macro_rules | `(tactic| fail) => `(tactic| with_reducible refine w_neg ?_)
local macro_rules | `(tactic| fail) => `(tactic| with_reducible refine w_sub ?_)
local macro_rules | `(tactic| fail) => `(tactic| with_reducible refine w_addI ?_)
local macro_rules | `(tactic| fail) => `(tactic| with_reducible refine w_add ?_)
local macro_rules | `(tactic| fail) => `(tactic| with_reducible refine w_mt ?_)
local macro_rules | `(tactic| fail) => `(tactic| with_reducible refine w_aug (by with_unfolding_all rfl) ?_)
local macro_rules | `(tactic| fail) => `(tactic| with_reducible (apply w_ulc; (focus (repeat (first | exact WipeR.z | apply WipeR.s | exact NoneR.z | apply NoneR.s)))))
local macro_rules | `(tactic| fail) => `(tactic| with_reducible refine w_retN ?_)
local macro_rules | `(tactic| fail) => `(tactic| with_reducible refine w_expr ?_)
local macro_rules | `(tactic| fail) => `(tactic| with_reducible refine w_asgU ?_)
local macro_rules | `(tactic| fail) => `(tactic| with_reducible refine w_u ?_)
local macro_rules | `(tactic| fail) => `(tactic| with_reducible refine w_uix ?_)
local macro_rules | `(tactic| fail) => `(tactic| with_reducible refine w_ulst ?_)
local macro_rules | `(tactic| fail) => `(tactic| with_reducible refine w_own ?_)
local macro_rules | `(tactic| fail) => `(tactic| with_reducible (apply kP3_3; (focus (repeat (first | exact SetR.z | apply SetR.s))); (focus (repeat (first | exact SetR.z | apply SetR.s))); (focus (repeat (first | exact SetR.z | apply SetR.s)))))
local macro_rules | `(tactic| fail) => `(tactic| with_reducible refine w_par3 ?_)
local macro_rules | `(tactic| fail) => `(tactic| with_reducible (apply kP_2; (focus (repeat (first | exact SetR.z | apply SetR.s))); (focus (repeat (first | exact SetR.z | apply SetR.s)))))
local macro_rules | `(tactic| fail) => `(tactic| with_reducible refine w_par ?_)
local macro_rules | `(tactic| fail) => `(tactic| with_reducible refine w_gcons ?_)
local macro_rules | `(tactic| fail) => `(tactic| with_reducible refine w_gnil ?_)
local macro_rules | `(tactic| fail) => `(tactic| with_reducible refine w_gtupT (by with_unfolding_all rfl) (by with_unfolding_all rfl) ?_)
local macro_rules | `(tactic| fail) => `(tactic| with_reducible refine w_gtup (by with_unfolding_all rfl) ?_)
local macro_rules | `(tactic| fail) => `(tactic| with_reducible refine w_un ?_)
local macro_rules | `(tactic| fail) => `(tactic| with_reducible refine w_enot ?_)
local macro_rules | `(tactic| fail) => `(tactic| with_reducible refine w_eor ?_)
local macro_rules | `(tactic| fail) => `(tactic| with_reducible refine w_eand ?_)
local macro_rules | `(tactic| fail) => `(tactic| with_reducible refine w_eif ?_)
local macro_rules | `(tactic| fail) => `(tactic| with_reducible refine w_tnot ?_)
local macro_rules | `(tactic| fail) => `(tactic| with_reducible refine w_tor ?_)
local macro_rules | `(tactic| fail) => `(tactic| with_reducible refine w_tand ?_)
local macro_rules | `(tactic| fail) => `(tactic| with_reducible refine wTru_non ?_)
local macro_rules | `(tactic| fail) => `(tactic| with_reducible refine wTru_int ?_)
local macro_rules | `(tactic| fail) => `(tactic| with_reducible refine wTru_bl ?_)
local macro_rules | `(tactic| fail) => `(tactic| with_reducible refine w_tru ?_)
local macro_rules | `(tactic| fail) => `(tactic| with_reducible refine w_for ?_)
local macro_rules | `(tactic| fail) => `(tactic| with_reducible refine w_snil ?_)
local macro_rules | `(tactic| fail) => `(tactic| with_reducible refine kAB_bl ?_)
local macro_rules | `(tactic| fail) => `(tactic| with_reducible refine w_asB ?_)
local macro_rules | `(tactic| fail) => `(tactic| with_reducible refine w_ret ?_)
local macro_rules | `(tactic| fail) => `(tactic| with_reducible refine w_len ?_ (by with_unfolding_all exact Nat.le_of_ble_eq_true rfl))
local macro_rules | `(tactic| fail) => `(tactic| with_reducible refine wTup_any ?_ (by with_unfolding_all exact Nat.le_of_ble_eq_true rfl))
local macro_rules | `(tactic| fail) => `(tactic| with_reducible refine wTup_q _ ?_)
local macro_rules | `(tactic| fail) => `(tactic| with_reducible refine wTup_qm2 ?_)
local macro_rules | `(tactic| fail) => `(tactic| with_reducible refine wTup_qm1 ?_)
local macro_rules | `(tactic| fail) => `(tactic| with_reducible refine wTup_q2 ?_)
local macro_rules | `(tactic| fail) => `(tactic| with_reducible refine wTup_q1 ?_)
local macro_rules | `(tactic| fail) => `(tactic| with_reducible refine wTup_q0 ?_)
local macro_rules | `(tactic| fail) => `(tactic| with_reducible refine wTup_p ?_)
local macro_rules | `(tactic| fail) => `(tactic| with_reducible refine w_tup2 ?_)
local macro_rules | `(tactic| fail) => `(tactic| with_reducible (apply w_gname; (focus (repeat (first | exact SetR.z | apply SetR.s)))))
local macro_rules | `(tactic| fail) => `(tactic| with_reducible refine w_anil ?_)
local macro_rules | `(tactic| fail) => `(tactic| with_reducible refine w_acons ?_)
local macro_rules | `(tactic| fail) => `(tactic| with_reducible refine w_call ?_)
local macro_rules | `(tactic| fail) => `(tactic| with_reducible refine w_c ?_)
local macro_rules | `(tactic| fail) => `(tactic| with_reducible refine w_c1 ?_)
local macro_rules | `(tactic| fail) => `(tactic| with_reducible refine w_c0 ?_)
local macro_rules | `(tactic| fail) => `(tactic| with_reducible refine w_var (by with_unfolding_all rfl) ?_)
local macro_rules | `(tactic| fail) => `(tactic| with_reducible refine w_op ?_)
local macro_rules | `(tactic| fail) => `(tactic| with_reducible refine w_asg ?_)
local macro_rules | `(tactic| fail) => `(tactic| with_reducible refine kC_rt ?_)
local macro_rules | `(tactic| fail) => `(tactic| with_reducible refine kC_nx ?_)
local macro_rules | `(tactic| fail) => `(tactic| with_reducible refine w_scons ?_)
local macro_rules | `(tactic| contradiction) => `(tactic| (repeat infer_instance))
local macro_rules | `(tactic| trivial) => `(tactic| (apply w_mk; (focus ((repeat (first | apply InitR.s | apply InitR.z)); repeat (first | exact RepR.z | apply RepR.s))); (focus rfl); contradiction))
local macro_rules | `(tactic| array_get_dec) => `(tactic| (apply Sz.mono; (focus (repeat (first | assumption | exact sz_0 (k := 1) | exact sz_1 (k := 1) | apply sz_neg | (apply sz_over; case h => assumption) | apply sz_mul | apply sz_add | apply sz_sub))); decide))
namespace ML
open PySem PySem.Spec PyProof.Rows L2 RT
/-! texts read: rules -/
section
variable {env : En} {S : Sto} {Q : D → Sto → Prop} {fo fe fi fv : Den} {a b : Str} {op : Op2}
def wTm (g : Tm) (x y : D) (S : Sto) (Q : D → Sto → Prop) : Prop := ∃ a d S', x = .str a ∧ g a y S = some (d, S') ∧ Q d S'
theorem w_tm {g : Tm} (h : wE fo env S fun x S1 => wE fe env S1 fun y S2 => wTm g x y S2 Q) : wE (eTm g fo fe) env S Q := by
  obtain ⟨x, S1, e1, y, S2, e2, a, d, S', rfl, e3, q⟩ := h
  exact ⟨d, S', by unfold eTm; rw [e1, Option.bind_some]; dsimp only; rw [e2, Option.bind_some]; exact e3, q⟩
theorem wTm_starts (q : Q (.bl (Txt.startswith a b)) S) : wTm tmStarts (.str a) (.str b) S Q := ⟨a, _, _, rfl, rfl, q⟩
theorem wTm_split (h : b.length ≠ 0 ∧ a.length + 2 ≤ sizeLine) (q : Q (.loc S.length) (S ++ [.lst ((Txt.split a b).map D.str)])) : wTm tmSplit (.str a) (.str b) S Q := ⟨a, _, _, rfl, if_pos h, q⟩
theorem wTm_part (h : b.length ≠ 0 ∧ a.length ≤ sizeLine) (q : Q (.tup [.str (Txt.partition a b).1, .str (Txt.partition a b).2.1, .str (Txt.partition a b).2.2]) S) : wTm tmPart (.str a) (.str b) S Q := ⟨a, _, _, rfl, if_pos h, q⟩
theorem strs_map : ∀ ys : List Str, strs? (ys.map D.str) = some ys
  | [] => rfl
  | y :: ys => by
    show (strs? (ys.map D.str)).map _ = _
    rw [strs_map ys]
    rfl
theorem wTm_join {l : Nat} {ys : List Str} (h : lsAt S l = some (ys.map D.str)) (hz : (ys.map (·.length)).sum + ys.length * a.length ≤ 16777216) (q : Q (.str (Txt.join a ys)) S) : wTm tmJoin (.str a) (.loc l) S Q := ⟨a, _, _, rfl, by
  show (lsAt S l).bind (fun ds => joinOf a ds S) = _
  rw [h, Option.bind_some]
  unfold joinOf
  rw [strs_map, Option.bind_some, if_pos hz], q⟩
theorem wI_str {QI : List D → List (Nat × Ob) → Sto → Prop} {f : Den} (h : wE f env S fun x S1 => ∃ z, x = .str z ∧ QI (sgD z) [] S1) : wI (iSeqT f) env S QI := by
  obtain ⟨x, S1, e1, z, rfl, q⟩ := h
  exact ⟨⟨sgD z, []⟩, S1, by unfold iSeqT; rw [e1]; rfl, q⟩
theorem w_inT {c : Nat} {z : Str} (q : Q (.bl (decide (c ∈ z.cps.toList))) S) : w2 (gInT false) (.str ⟨#[c]⟩) (.str z) S Q := ⟨_, _, rfl, q⟩
theorem w_leT {x y : Str} (q : Q (.bl (!decide (y.cps.toList < x.cps.toList))) S) : w2 cLeT (.str x) (.str y) S Q := ⟨_, _, rfl, q⟩
/-- a < b < c by two tests -/
def wCh (g' : Op2) (y : D) (fc : Den) (env : En) (r : D) (S : Sto) (Q : D → Sto → Prop) : Prop := ∃ k, r = .bl k ∧ wB k (wE fc env S fun z S1 => w2 g' y z S1 Q) (Q (.bl false) S)
theorem w_chain {g g' : Op2} {fa fb fc : Den} (h : wE fa env S fun x S1 => wE fb env S1 fun y S2 => w2 g x y S2 fun r S3 => wCh g' y fc env r S3 Q) : wE (eChain g g' fa fb fc) env S Q := by
  obtain ⟨x, S1, e1, y, S2, e2, r, S3, e3, k, rfl, h⟩ := h
  cases k with
  | true =>
    obtain ⟨z, S4, e4, d, S5, e5, q⟩ := (show wE fc env S3 fun z S1 => w2 g' y z S1 Q from h)
    exact ⟨d, S5, by unfold eChain; rw [e1, Option.bind_some]; dsimp only; rw [e2, Option.bind_some]; dsimp only; rw [e3, Option.bind_some]; dsimp only; rw [e4, Option.bind_some]; exact e5, q⟩
  | false =>
    have h : Q (.bl false) S3 := (if_neg (by decide)).mp h
    exact ⟨_, S3, by unfold eChain; rw [e1, Option.bind_some]; dsimp only; rw [e2, Option.bind_some]; dsimp only; rw [e3, Option.bind_some], h⟩
theorem wCh_mk {g' : Op2} {y : D} {fc : Den} {k : Bool} (h : wB k (wE fc env S fun z S1 => w2 g' y z S1 Q) (Q (.bl false) S)) : wCh g' y fc env (.bl k) S Q := ⟨k, rfl, h⟩
theorem w_alls {α : Type} {l : List α} {p : α → Bool} (q : Q (.bl (l.all p)) S) : wF gAllU (l.map fun x => D.bl (p x)) S Q := by
  refine ⟨_, _, ?_, q⟩
  have : ∀ m : List α, bs? (m.map fun x => D.bl (p x)) = some (m.map p) := by
    intro m
    induction m with
    | nil => rfl
    | cons x m ih =>
      show (bs? (m.map fun x => D.bl (p x))).map _ = _
      rw [ih]
      rfl
  show (bs? (l.map fun x => D.bl (p x))).map _ = _
  rw [this]
  simp [List.all_map, Function.comp_def]
end
/-! the signs of a text, and what they make -/
def isDig (c : Nat) : Bool := decide (48 ≤ c) && decide (c ≤ 57)
def isLow (c : Nat) : Bool := decide (97 ≤ c) && decide (c ≤ 122)
theorem low_mem (c : Nat) : decide (c ∈ ("abcdefghijklmnopqrstuvwxyz" : Str).cps.toList) = isLow c := by
  have e : ("abcdefghijklmnopqrstuvwxyz" : Str).cps.toList = (List.range 26).map (· + 97) := (TL.tl_ofString "abcdefghijklmnopqrstuvwxyz").trans (by decide)
  rw [e]
  unfold isLow
  rw [← Bool.decide_and, decide_eq_decide, List.mem_map]
  constructor
  · rintro ⟨k, hk, rfl⟩
    rw [List.mem_range] at hk
    omega
  · intro h
    exact ⟨c - 97, by rw [List.mem_range]; omega, by omega⟩
theorem dig_mem (c : Nat) : decide (c ∈ ("0123456789" : Str).cps.toList) = isDig c := by
  have e : ("0123456789" : Str).cps.toList = (List.range 10).map (· + 48) := (TL.tl_ofString "0123456789").trans (by decide)
  rw [e]
  unfold isDig
  rw [← Bool.decide_and, decide_eq_decide, List.mem_map]
  constructor
  · rintro ⟨k, hk, rfl⟩
    rw [List.mem_range] at hk
    omega
  · intro h
    exact ⟨c - 48, by rw [List.mem_range]; omega, by omega⟩
def nameL (L : List Nat) : Bool := decide (1 ≤ L.length) && (decide (L.length ≤ 8) && L.all isLow)
def shortL (L : List Nat) : Bool := decide (L.length ≤ 200) && L.all fun c => decide (32 ≤ c) && decide (c ≤ 126)
theorem mem_sgD {z : Str} {d : D} (h : d ∈ sgD z) : ∃ c, c ∈ TL.tl z ∧ d = .str ⟨#[c]⟩ := by
  obtain ⟨c, hc, rfl⟩ := List.mem_map.mp h
  exact ⟨c, hc, rfl⟩
theorem len_line {z : Str} (h : z.length ≤ 1000) : z.length ≤ sizeLine := line_pos h
/-! ### names, short rows -/
def nameS (x : Str) : Bool := nameL (TL.tl x)
theorem w_lenS {x : Str} {S : Sto} {Q : D → Sto → Prop} (h : x.length ≤ sizeLine) (q : Q (.int x.length) S) : wF bLen [.str x] S Q := ⟨_, _, if_pos h, q⟩
theorem w_signs {env env' : En} {S : Sto} {QA : List D → Sto → Prop} {i j : Nat} {x : Str} {f : Den} {p : Nat → Bool} (hv : env[i]? = some (some (.str x))) (hl : x.length ≤ 1000)
    (h : ∀ c, c ∈ TL.tl x → wE f (env'.set j (some (.str ⟨#[c]⟩))) S fun r T => r = .bl (p c) ∧ T = S) (q : QA ((TL.tl x).map fun c => .bl (p c)) S) : wI (iSeqT (eVar i)) env S fun ds src S1 => wL src (ML.gName j) ML.tYes f env' ds [] S1 QA := by
  refine wI_str (w_var hv ⟨x, rfl, ?_⟩)
  have e : (TL.tl x).map (fun c => D.bl (p c)) = (sgD x).map (fun d => match d with
    | .str y => D.bl (p (y.cps.toList.headD 0))
    | d => d) := by
    unfold sgD
    rw [List.map_map]
    exact List.map_congr_left fun c _ => rfl
  refine w_lmap (fun d => match d with
    | .str y => D.bl (p (y.cps.toList.headD 0))
    | d => d) (by intro _ h; cases h) (by rw [sgD, List.length_map]; exact (TL.len_tl x).symm ▸ hl) (fun d hd => ?_) (by rw [← e]; exact q)
  obtain ⟨c, hc, rfl⟩ := mem_sgD hd
  exact ⟨_, _, rfl, rfl, h c hc⟩
theorem w_is_name {x : Str} {S : Sto} {Q : D → Sto → Prop} (hl : x.length ≤ 1000) (q : Q (.bl (nameS x)) S) : wF p_is_name [.str x] S Q := by
  have hx : (x.length : Nat) = (TL.tl x).length := TL.len_tl x
  unfold nameS nameL at q
  trivial
  refine w_chain ?_
  contradiction
  refine w_lenS (len_line hl) ?_
  contradiction
  refine wCh_mk ?_
  refine wB_dec (fun c => ?_) (fun c => ?_)
  · rw [decide_eq_true (show 1 ≤ (TL.tl x).length by omega), Bool.true_and] at q
    contradiction
    refine wB_dec (fun c2 => ?_) (fun c2 => ?_)
    · rw [decide_eq_true (show (TL.tl x).length ≤ 8 by omega), Bool.true_and] at q
      contradiction
      refine w_signs rfl hl (p := isLow) (fun c hc => ?_) ?_
      · contradiction
        refine w_inT ?_
        rw [low_mem]
        exact ⟨rfl, rfl⟩
      · refine w_alls ?_
        contradiction
        exact kR_same q
    · rw [decide_eq_false (show ¬ (TL.tl x).length ≤ 8 by omega), Bool.false_and] at q
      contradiction
      rw [decide_eq_false c2]
      exact kR_same q
  · rw [decide_eq_false (show ¬ 1 ≤ (TL.tl x).length by omega), Bool.false_and] at q
    contradiction
    exact kR_same q
theorem lt1 (a b : Nat) : (([a] : List Nat) < [b]) ↔ a < b := by
  rw [List.cons_lt_cons_iff]
  simp
theorem w_is_short {x : Str} {S : Sto} {Q : D → Sto → Prop} (hl : x.length ≤ sizeLine) (q : Q (.bl (shortL (TL.tl x))) S) : wF p_is_short [.str x] S Q := by
  have hx : (x.length : Nat) = (TL.tl x).length := TL.len_tl x
  unfold shortL at q
  trivial
  refine w_lenS hl ?_
  contradiction
  refine wB_dec (fun c => ?_) (fun c => ?_)
  · rw [decide_eq_true (show (TL.tl x).length ≤ 200 by omega), Bool.true_and] at q
    contradiction
    refine w_signs rfl (by omega) (p := fun c => decide (32 ≤ c) && decide (c ≤ 126)) (fun c hc => ?_) ?_
    · refine w_chain ?_
      contradiction
      refine w_leT ?_
      refine wCh_mk ?_
      have e1 : (" " : Str).cps.toList = [32] := (TL.tl_ofString " ").trans (by decide)
      have e2 : ("~" : Str).cps.toList = [126] := (TL.tl_ofString "~").trans (by decide)
      rw [e1]
      refine wB_not ?_
      refine wB_dec (fun d => ?_) (fun d => ?_)
      · have d2 : c < 32 := (lt1 c 32).mp d
        refine ⟨?_, rfl⟩
        rw [decide_eq_false (show ¬ 32 ≤ c by omega), Bool.false_and]
      · have d2 : ¬ c < 32 := fun z => d ((lt1 c 32).mpr z)
        contradiction
        refine w_leT ⟨?_, rfl⟩
        rw [e2, decide_eq_true (show 32 ≤ c by omega), Bool.true_and]
        have : (([126] : List Nat) < (⟨#[c]⟩ : Str).cps.toList) ↔ 126 < c := lt1 126 c
        rw [← decide_not, D.bl.injEq, decide_eq_decide, this]
        omega
    · refine w_alls ?_
      contradiction
      exact kR_same q
  · rw [decide_eq_false (show ¬ (TL.tl x).length ≤ 200 by omega), Bool.false_and] at q
    contradiction
    rw [decide_eq_false c]
    exact kR_same q
/-! ### whole numbers and fractions written -/
def wholeF (L F : List Nat) : Option Int :=
  if (decide (1 ≤ F.length) && (decide (F.length ≤ 6) && F.all isDig)) = true then
    if F.head? = some 48 ∧ L ≠ [48] then none else some (if L.head? = some 45 then -((NumText.digitsVal F : Nat) : Int) else ((NumText.digitsVal F : Nat) : Int))
  else none
def wholeL (L : List Nat) : Option Int := wholeF L (if L.head? = some 45 then L.tail else L)
def oI : Option Int → D
  | none => .non
  | some n => .int n
theorem str_eq {x y : Str} : x = y ↔ TL.tl x = TL.tl y := ⟨fun h => by rw [h], TL.ext_tl⟩
theorem starts1 (x : Str) (y : Str) {c : Nat} (hy : TL.tl y = [c]) : Txt.startswith x y = decide ((TL.tl x).head? = some c) := by
  have h1 := TL.at_iff (x := x) (y := y) (by rw [hy]; exact List.cons_ne_nil _ _) 0
  rw [List.drop_zero, hy] at h1
  have h2 : TL.pre [c] (TL.tl x) = decide ((TL.tl x).head? = some c) := by
    unfold TL.pre
    cases TL.tl x with
    | nil => rfl
    | cons a r =>
      by_cases h : a = c
      · subst h; simp
      · simp [h]
  rw [← h2]
  have h3 : Txt.startswith x y = true ↔ TL.pre [c] (TL.tl x) = true := by
    rw [← h1]
    unfold Txt.startswith StrLaws.At
    rw [Bool.and_eq_true, decide_eq_true_eq]
  cases e1 : Txt.startswith x y <;> cases e2 : TL.pre [c] (TL.tl x) <;> simp_all
/-- signs that one types -/
def asc (x : Str) : Prop := ∀ c ∈ TL.tl x, c < 0x110000
theorem asc_ok {x : Str} (h : asc x) : (PyData.str x).canLay0 = true := by
  show x.cps.all (· < 0x110000) = true
  rw [Array.all_eq_true']
  intro c hc
  exact decide_eq_true (h c (Array.mem_toList_iff.mpr hc))
theorem asc_of (s : String) : asc (Str.ofString s) := by
  have h := ofStr_ok s
  intro c hc
  have h : (Str.ofString s).cps.all (· < 0x110000) = true := h
  rw [Array.all_eq_true'] at h
  exact of_decide_eq_true (h c (Array.mem_toList_iff.mp hc))
theorem w_eqT {x y : Str} {S : Sto} {Q : D → Sto → Prop} (hx : asc x) (hy : asc y) (q : Q (.bl (decide (x = y))) S) : w2 cEq (.str x) (.str y) S Q := by
  by_cases h : x = y
  · subst h
    rw [decide_eq_true rfl] at q
    exact w_2 (cEq_t (n := 0) (asc_ok hx)) q
  · rw [decide_eq_false h] at q
    exact w_2 (cEq_f (n := 0) (m := 0) (asc_ok hx) (asc_ok hy) (fun e => h (D.str.inj e))) q
theorem w_neT {x y : Str} {S : Sto} {Q : D → Sto → Prop} (hx : asc x) (hy : asc y) (q : Q (.bl (!decide (x = y))) S) : w2 cNe (.str x) (.str y) S Q := by
  by_cases h : x = y
  · subst h
    rw [decide_eq_true rfl] at q
    exact w_2 (cNe_t (n := 0) (asc_ok hx)) q
  · rw [decide_eq_false h] at q
    exact w_2 (cNe_f (n := 0) (m := 0) (asc_ok hx) (asc_ok hy) (fun e => h (D.str.inj e))) q
theorem w_slS {f : Den} {l u : ODen} {env : En} {S : Sto} {Q : D → Sto → Prop} (h : wE f env S fun x S1 => wO l env S1 fun i S2 => wO u env S2 fun j S3 => ∃ z, x = .str z ∧ z.length ≤ sizeLine ∧ Q (.str (cutS z i j)) S3) : wE (eSlS f l u) env S Q := by
  obtain ⟨x, S1, e1, i, S2, e2, j, S3, e3, z, rfl, hz, q⟩ := h
  exact ⟨_, S3, by unfold eSlS; rw [e1, Option.bind_some]; dsimp only; rw [e2, Option.bind_some]; dsimp only; rw [e3, Option.bind_some]; exact if_pos hz, q⟩
theorem w_oSome {f : Den} {env : En} {S : Sto} {Q : Option Int → Sto → Prop} (h : wE f env S fun x S1 => ∃ i, x = .int i ∧ Q (some i) S1) : wO (oSome f) env S Q := by
  obtain ⟨x, S1, e1, i, rfl, q⟩ := h
  exact ⟨_, S1, by unfold oSome; rw [e1]; rfl, q⟩
theorem tl_cut1 (x : Str) : TL.tl (cutS x (some 1) none) = (TL.tl x).tail := by
  have h : TL.tl (cutS x (some 1) none) = ((x.cps.toList.drop (HT.sIx x.length 0 (some 1))).take (HT.sIx x.length x.length none - HT.sIx x.length 0 (some 1))) := rfl
  rw [h]
  have e1 : HT.sIx x.length 0 (some ((1 : Nat) : Int)) = min 1 x.length := HT.sIx_nat _ _ 1
  have e1 : HT.sIx x.length 0 (some 1) = min 1 x.length := e1
  rw [e1, HT.sIx_none]
  have hl : x.length = x.cps.toList.length := TL.len_tl x
  rw [hl]
  show _ = x.cps.toList.tail
  generalize x.cps.toList = L
  cases L with
  | nil => rfl
  | cons a r =>
    have : min 1 (a :: r).length = 1 := by simp
    rw [this]
    simp
noncomputable def whole_rest : SDen := (sCons (sIf (ML.tOr (ML.tNot (asB (eChain cLe cLe (eC (.int 1)) (eCall bLen (aCons (eVar 1) aNil)) (eC (.int 6))))) (ML.tNot (tTru (eU gAllU (uLc (iSeqT (eVar 1)) (ML.gName 2) ML.tYes (eOp (gInT false) (eVar 2) (eC (.str "0123456789"))) [2]))))) (sCons (sRet (eC .non)) sNil) sNil) (sCons (sIf (ML.tAnd (asB (eOp cEq (eOp gIx (eVar 1) (eC (.int 0))) (eC (.str "0")))) (asB (eOp cNe (eVar 0) (eC (.str "0"))))) (sCons (sRet (eC .non)) sNil) sNil) (sCons (sRet (eCall bIntT (aCons (eVar 0) aNil))) sNil)))
theorem whole_is : p_whole_in = mkFn 1 3 (sCons (sAsg (eVar 0) (ML.gName 1)) (sCons (sIf (tTru (eTm tmStarts (eVar 0) (eC (.str "-")))) (sCons (sAsg (eSlS (eVar 0) (oSome (eC (.int 1))) oNone) (ML.gName 1)) sNil) sNil) whole_rest)) := rfl
theorem w_whole_rest {x f : Str} {S : Sto} {Q : D → Sto → Prop} (hf : TL.tl f = if (TL.tl x).head? = some 45 then (TL.tl x).tail else TL.tl x) (hl : x.length ≤ 1000) (ha : asc x) (q : Q (oI (wholeL (TL.tl x))) S) :
    wS whole_rest [some (.str x), some (.str f), none] S (kR S.length Q) := by
  unfold wholeL at q
  rw [← hf] at q
  have lf : f.length = (TL.tl f).length := TL.len_tl f
  have lx : x.length = (TL.tl x).length := TL.len_tl x
  have fx : f.length ≤ x.length := by
    rw [lf, lx, hf]
    split
    · rw [List.length_tail]; omega
    · exact Nat.le_refl _
  have af : asc f := by
    intro c hc
    rw [hf] at hc
    split at hc
    · exact ha c (List.mem_of_mem_tail hc)
    · exact ha c hc
  unfold whole_rest
  contradiction
  refine w_chain ?_
  contradiction
  refine w_lenS (len_line (by omega)) ?_
  contradiction
  refine wCh_mk ?_
  have none_ : (decide (1 ≤ (TL.tl f).length) && (decide ((TL.tl f).length ≤ 6) && (TL.tl f).all isDig)) = false → Q .non S := by
    intro e
    unfold wholeF at q
    rw [if_neg (by rw [e]; exact Bool.false_ne_true)] at q
    exact q
  refine wB_dec (fun c => ?_) (fun c => ?_)
  · have c1 : decide (1 ≤ (TL.tl f).length) = true := decide_eq_true (by omega)
    contradiction
    refine wB_dec (fun c2 => ?_) (fun c2 => ?_)
    · have c3 : decide ((TL.tl f).length ≤ 6) = true := decide_eq_true (by omega)
      contradiction
      refine w_signs rfl (by omega) (p := isDig) (fun c hc => ?_) ?_
      · contradiction
        refine w_inT ?_
        rw [dig_mem]
        exact ⟨rfl, rfl⟩
      · refine w_alls ?_
        contradiction
        cases hd : (TL.tl f).all isDig with
        | false =>
          contradiction
          exact kR_same (none_ (by rw [hd, Bool.and_false, Bool.and_false]))
        | true =>
          have hall : (decide (1 ≤ (TL.tl f).length) && (decide ((TL.tl f).length ≤ 6) && (TL.tl f).all isDig)) = true := by rw [c1, c3, hd]; rfl
          unfold wholeF at q
          rw [if_pos hall] at q
          have digs : NumText.AllDigits (TL.tl f) := by
            intro k hk
            have := List.all_eq_true.mp hd k hk
            unfold isDig at this
            simpa using this
          have fne : TL.tl f ≠ [] := by
            intro e
            rw [e] at lf
            simp at lf
            omega
          obtain ⟨a, r, har⟩ := List.exists_cons_of_ne_nil fne
          have zz : TL.tl ("0" : Str) = [48] := (TL.tl_ofString "0").trans (by decide)
          have az : asc ⟨#[a]⟩ := fun k hk => af k (by rw [har]; exact List.mem_cons.mpr (.inl (List.mem_singleton.mp hk)))
          have e1 : decide ((⟨#[a]⟩ : Str) = "0") = decide ((TL.tl f).head? = some 48) := by
            rw [decide_eq_decide, str_eq, zz, har]
            simp [TL.tl]
          have e2 : decide (x = "0") = decide (TL.tl x = [48]) := by rw [decide_eq_decide, str_eq, zz]
          have fin : ¬ ((TL.tl f).head? = some 48 ∧ TL.tl x ≠ [48]) → wF bIntT [.str x] S fun d S1 => kR S.length Q (.rt d) [some (.str x), some (.str f), none] S1 := by
            intro no
            rw [if_neg no] at q
            by_cases h45 : (TL.tl x).head? = some 45
            · rw [if_pos h45] at q hf
              obtain ⟨t, ht⟩ : ∃ t, TL.tl x = 45 :: t := by
                cases hx : TL.tl x with
                | nil => rw [hx] at h45; cases h45
                | cons b t => rw [hx] at h45; cases h45; exact ⟨t, rfl⟩
              rw [ht, List.tail_cons] at hf
              have e := intText_neg (x := x) (cs := t) ht (by rw [← hf]; exact digs) (by rw [← hf]; exact fne) (by omega)
              rw [hf] at q
              refine ⟨_, _, ?_, kR_same q⟩
              show (if x.length ≤ 640 then (PySem.intText? x).map fun n => (D.int n, S) else none) = _
              rw [if_pos (by rw [lx, ht, List.length_cons, ← hf, ← lf]; omega), e]
              rfl
            · rw [if_neg h45] at q hf
              have e := intText_digits (x := x) (by rw [show x.cps.toList = TL.tl f from hf.symm]; exact digs) (by rw [show x.cps.toList = TL.tl f from hf.symm]; exact fne) (by omega)
              refine ⟨_, _, ?_, kR_same q⟩
              show (if x.length ≤ 640 then (PySem.intText? x).map fun n => (D.int n, S) else none) = _
              rw [if_pos (by rw [lx, ← hf, ← lf]; omega), e, show x.cps.toList = TL.tl f from hf.symm]
              rfl
          contradiction
          refine w_2 (show gIx (.str f) (.int 0) S = some (.str ⟨#[a]⟩, S) by
            show (if f.length ≤ sizeLine then (atI f.cps.toList 0).map fun c => (D.str ⟨#[c]⟩, S) else none) = _
            rw [if_pos (len_line (by omega)), show f.cps.toList = a :: r from har, atI_0]
            rfl) ?_
          contradiction
          refine w_eqT az (asc_of "0") ?_
          rw [e1]
          contradiction
          refine wB_dec (fun d => ?_) (fun d => ?_)
          · contradiction
            refine w_neT ha (asc_of "0") ?_
            rw [e2]
            contradiction
            refine wB_dec (fun d2 => ?_) (fun d2 => ?_)
            · contradiction
              exact fin fun z => z.2 d2
            · contradiction
              rw [if_pos ⟨d, d2⟩] at q
              exact kR_same q
          · contradiction
            exact fin fun z => d z.1
    · contradiction
      exact kR_same (none_ (by rw [decide_eq_false (show ¬ (TL.tl f).length ≤ 6 by omega), Bool.false_and, Bool.and_false]))
  · contradiction
    exact kR_same (none_ (by rw [decide_eq_false (show ¬ 1 ≤ (TL.tl f).length by omega), Bool.false_and]))
theorem w_whole_in {x : Str} {S : Sto} {Q : D → Sto → Prop} (hl : x.length ≤ 1000) (ha : asc x) (q : Q (oI (wholeL (TL.tl x))) S) : wF p_whole_in [.str x] S Q := by
  have m1 : TL.tl ("-" : Str) = [45] := (TL.tl_ofString "-").trans (by decide)
  rw [whole_is]
  trivial
  refine w_tm ?_
  contradiction
  refine wTm_starts ?_
  rw [starts1 x _ m1]
  contradiction
  refine wB_dec (fun c => ?_) (fun c => ?_)
  · contradiction
    refine w_slS ?_
    contradiction
    refine w_oSome ?_
    contradiction
    refine ⟨_, rfl, ?_⟩
    contradiction
    refine ⟨_, rfl, len_line hl, ?_⟩
    contradiction
    exact w_whole_rest (by rw [if_pos c]; exact tl_cut1 x) hl ha q
  · contradiction
    exact w_whole_rest (by rw [if_neg c]) hl ha q
end ML

namespace ML
open PySem PySem.Spec PyProof.Rows L2 RT
/-! ### the greatest common part; fractions written -/
theorem w_common {a b : Nat} {S : Sto} {Q : D → Sto → Prop} (q : Q (.int (Nat.gcd a b : Nat)) S) : wF p_common [.int a, .int b] S Q := by
  trivial
  refine w_while (fun e T => ∃ u v : Nat, e = [some (.int u), some (.int v)] ∧ T = S ∧ Nat.gcd u v = Nat.gcd a b) (fun e _ => match e with
    | [_, some (D.int i)] => i.toNat
    | _ => 0) ⟨a, b, rfl, rfl, rfl⟩ ?_
  rintro e T ⟨u, v, rfl, rfl, hg⟩
  contradiction
  refine wB_dec (fun c => ?_) (fun c => ?_)
  rotate_left
  · contradiction
    refine w_mod c ?_
    contradiction
    have e1 : (u : Int).fmod (v : Int) = ((u % v : Nat) : Int) := by
      rw [Int.fmod_eq_emod_of_nonneg _ (by omega)]
      rfl
    rw [e1]
    refine ⟨⟨v, u % v, rfl, rfl, ?_⟩, ?_⟩
    · rw [← hg, Nat.gcd_comm v, ← Nat.gcd_rec, Nat.gcd_comm]
    · show (((u % v : Nat) : Int)).toNat < ((v : Nat) : Int).toNat
      rw [Int.toNat_natCast, Int.toNat_natCast]
      exact Nat.mod_lt _ (by omega)
  · have c2 : v = 0 := by omega
    subst c2
    rw [Nat.gcd_zero_right] at hg
    contradiction
    rw [hg]
    exact kR_same q
/-- ahead of the first stroke, and behind it -/
def cutAt (c : Nat) : List Nat → List Nat × Option (List Nat)
  | [] => ([], none)
  | a :: r => if a = c then ([], some r) else ((a :: (cutAt c r).1), (cutAt c r).2)
def numberL (L : List Nat) : Option (Int × Int) := match cutAt 47 L with
  | (A, none) => (wholeL A).map fun n => (n, 1)
  | (A, some B) => match wholeL A, wholeL B with
    | some n, some m => if 2 ≤ m ∧ Nat.gcd n.natAbs m.natAbs = 1 then some (n, m) else none
    | _, _ => none
def oQ : Option (Int × Int) → D
  | none => .non
  | some (n, m) => .tup [.int n, .int m]
theorem cut_none {c : Nat} : ∀ {L : List Nat}, (cutAt c L).2 = none → (cutAt c L).1 = L
  | [], _ => rfl
  | a :: r, h => by
    unfold cutAt at h ⊢
    split
    · rename_i e; rw [if_pos e] at h; cases h
    · rename_i e; rw [if_neg e] at h; rw [cut_none h]
theorem par_cut {c : Nat} : ∀ (L acc : List Nat), TL.par [c] acc L = (cutAt c L).2.map fun B => (acc ++ (cutAt c L).1, B)
  | [], _ => rfl
  | a :: r, acc => by
    by_cases e : a = c
    · subst e
      rw [TL.par_hit (by unfold TL.pre; simp)]
      simp [cutAt]
    · rw [TL.par_miss (TL.pre_of_head [] r e), par_cut r]
      simp only [cutAt, if_neg e]
      cases (cutAt c r).2 <;> simp
theorem part_cut {x y : Str} {c : Nat} (hy : TL.tl y = [c]) : ∃ p q r : Str, Txt.partition x y = (p, q, r) ∧ TL.tl p = (cutAt c (TL.tl x)).1 ∧
    (match (cutAt c (TL.tl x)).2 with
      | none => q = Str.empty ∧ r = Str.empty
      | some B => q = y ∧ TL.tl r = B) := by
  have h := TL.partition_par x y (by rw [hy]; exact List.cons_ne_nil _ _)
  rw [hy, par_cut] at h
  cases e : (cutAt c (TL.tl x)).2 with
  | none =>
    rw [e] at h
    exact ⟨_, _, _, h, (cut_none e).symm, rfl, rfl⟩
  | some B =>
    rw [e] at h
    refine ⟨_, _, _, h, ?_, rfl, rfl⟩
    simp [TL.tl]
theorem cut_pos {c a : Nat} {r : List Nat} (e : a = c) : cutAt c (a :: r) = ([], some r) := by rw [cutAt, if_pos e]
theorem cut_neg {c a : Nat} {r : List Nat} (e : ¬ a = c) : cutAt c (a :: r) = (a :: (cutAt c r).1, (cutAt c r).2) := by rw [cutAt, if_neg e]
theorem cut_mem {c k : Nat} : ∀ {L : List Nat}, (k ∈ (cutAt c L).1 → k ∈ L) ∧ ∀ B, (cutAt c L).2 = some B → k ∈ B → k ∈ L
  | [] => ⟨fun h => h, fun B h => by cases h⟩
  | a :: r => by
    obtain ⟨h1, h2⟩ := cut_mem (c := c) (k := k) (L := r)
    by_cases e : a = c
    · rw [cut_pos e]
      exact ⟨fun h => (by cases h), fun B h hk => by cases h; exact List.mem_cons_of_mem _ hk⟩
    · rw [cut_neg e]
      exact ⟨fun h => by rcases List.mem_cons.mp h with e | e; exact List.mem_cons.mpr (.inl e); exact List.mem_cons_of_mem _ (h1 e), fun B h hk => List.mem_cons_of_mem _ (h2 B h hk)⟩
theorem cut_len {c : Nat} : ∀ {L : List Nat}, (cutAt c L).1.length ≤ L.length ∧ ∀ B, (cutAt c L).2 = some B → B.length ≤ L.length
  | [] => ⟨Nat.le_refl _, fun B h => by cases h⟩
  | a :: r => by
    obtain ⟨h1, h2⟩ := cut_len (c := c) (L := r)
    by_cases e : a = c
    · rw [cut_pos e]
      exact ⟨Nat.zero_le _, fun B h => by cases h; exact Nat.le_succ _⟩
    · rw [cut_neg e]
      exact ⟨by simp only [List.length_cons]; omega, fun B h => by have := h2 B h; simp only [List.length_cons]; omega⟩
theorem w_isO {o : Option Int} {S : Sto} {Q : D → Sto → Prop} (q : Q (.bl o.isNone) S) : w2 cIs (oI o) .non S Q := by
  cases o with
  | none => exact ⟨_, _, rfl, q⟩
  | some n => exact ⟨_, _, rfl, q⟩
theorem w_number_in {x : Str} {S : Sto} {Q : D → Sto → Prop} (hl : x.length ≤ 1000) (ha : asc x) (q : Q (oQ (numberL (TL.tl x))) S) : wF p_number_in [.str x] S Q := by
  have m1 : TL.tl ("/" : Str) = [47] := (TL.tl_ofString "/").trans (by decide)
  obtain ⟨p, s, r, hp, h1, h2⟩ := part_cut (x := x) m1
  have lx : x.length = (TL.tl x).length := TL.len_tl x
  have lp : p.length ≤ 1000 := by
    rw [TL.len_tl p, h1]
    have := (cut_len (c := 47) (L := TL.tl x)).1
    omega
  have ap : asc p := fun k hk => ha k ((cut_mem (c := 47) (L := TL.tl x)).1 (h1 ▸ hk))
  unfold numberL at q
  trivial
  refine w_tm ?_
  contradiction
  refine wTm_part ⟨by rw [TL.len_tl, m1]; decide, len_line hl⟩ ?_
  rw [hp]
  contradiction
  refine w_whole_in lp ap ?_
  contradiction
  rw [h1]
  have em : asc Str.empty := fun k hk => by cases hk
  cases hc : (cutAt 47 (TL.tl x)).2 with
  | none =>
    rw [hc] at h2
    obtain ⟨rfl, rfl⟩ := h2
    rw [show cutAt 47 (TL.tl x) = ((cutAt 47 (TL.tl x)).1, none) by rw [← hc]] at q
    dsimp only at q
    refine w_eqT em (asc_of "") ?_
    rw [decide_eq_true (show Str.empty = Str.ofString "" from rfl)]
    contradiction
    cases hw : wholeL (cutAt 47 (TL.tl x)).1 with
    | none =>
      rw [hw] at q
      refine w_isO ?_
      refine wB_t ?_
      contradiction
      exact kR_same q
    | some n =>
      rw [hw] at q
      contradiction
      exact kR_same q
  | some B =>
    rw [hc] at h2
    obtain ⟨rfl, hr⟩ := h2
    rw [show cutAt 47 (TL.tl x) = ((cutAt 47 (TL.tl x)).1, some B) by rw [← hc]] at q
    dsimp only at q
    refine w_eqT (asc_of "/") (asc_of "") ?_
    have m2 : TL.tl (Str.ofString "") = [] := (TL.tl_ofString "").trans (by decide)
    rw [decide_eq_false (show ¬ (Str.ofString "/" = Str.ofString "") by rw [str_eq, m1, m2]; exact fun z => by cases z)]
    contradiction
    refine w_isO ?_
    contradiction
    have lr : r.length ≤ 1000 := by
      rw [TL.len_tl r, hr]
      have := (cut_len (c := 47) (L := TL.tl x)).2 B hc
      omega
    have ar : asc r := fun k hk => ha k ((cut_mem (c := 47) (L := TL.tl x)).2 B hc (hr ▸ hk))
    cases hw : wholeL (cutAt 47 (TL.tl x)).1 with
    | none =>
      rw [hw] at q
      refine wB_t ?_
      contradiction
      refine w_isO ?_
      refine wB_t ?_
      contradiction
      exact kR_same q
    | some n =>
      rw [hw] at q
      refine wB_f ?_
      contradiction
      refine w_whole_in lr ar ?_
      rw [hr]
      contradiction
      refine w_isO ?_
      contradiction
      cases hw2 : wholeL B with
      | none =>
        rw [hw2] at q
        refine wB_t ?_
        contradiction
        exact kR_same q
      | some m =>
        rw [hw2] at q
        dsimp only at q
        refine wB_f ?_
        dsimp only [oI]
        contradiction
        refine wB_dec (fun c => ?_) (fun c => ?_)
        · contradiction
          rw [if_neg (by omega)] at q
          exact kR_same q
        · contradiction
          obtain ⟨k, rfl⟩ := Int.eq_ofNat_of_zero_le (show 0 ≤ m by omega)
          refine w_common ?_
          contradiction
          rw [Int.natAbs_natCast] at q
          refine wB_dec (fun d => ?_) (fun d => ?_)
          · contradiction
            rw [if_pos ⟨by omega, by omega⟩] at q
            exact kR_same q
          · contradiction
            rw [if_neg (fun z => d (by rw [z.2]; rfl))] at q
            exact kR_same q
end ML

namespace ML
open PySem PySem.Spec PyProof.Rows L2 RT
/-! ### words of a row -/
def cutAll (c : Nat) : List Nat → List (List Nat)
  | [] => [[]]
  | a :: r => if a = c then [] :: cutAll c r else match cutAll c r with
    | h :: t => (a :: h) :: t
    | [] => [[a]]
theorem cutAll_ne (c : Nat) : ∀ L : List Nat, cutAll c L ≠ []
  | [] => by unfold cutAll; exact List.cons_ne_nil _ _
  | a :: r => by
    unfold cutAll
    split
    · exact List.cons_ne_nil _ _
    · split <;> exact List.cons_ne_nil _ _
theorem spl_cutAll {c : Nat} : ∀ (L acc : List Nat), TL.spl [c] 0 acc L = match cutAll c L with
    | h :: t => (acc ++ h) :: t
    | [] => [acc]
  | [], acc => by
    rw [TL.spl_nil]
    simp [cutAll]
  | a :: r, acc => by
    have ne := cutAll_ne c r
    by_cases e : a = c
    · subst e
      rw [TL.spl_hit (by unfold TL.pre; simp)]
      show acc :: TL.spl [a] 0 [] r = _
      rw [spl_cutAll r []]
      cases h : cutAll a r with
      | nil => exact absurd h ne
      | cons u v => simp [cutAll, h]
    · rw [TL.spl_miss (TL.pre_of_head [] r e), spl_cutAll r]
      cases h : cutAll c r with
      | nil => exact absurd h ne
      | cons u v => simp [cutAll, h, if_neg e]
theorem split_cut {x y : Str} {c : Nat} (hy : TL.tl y = [c]) (hc : c < 256) : (Txt.split x y).map TL.tl = cutAll c (TL.tl x) := by
  rw [TL.split_spl x y (by rw [hy]; exact List.cons_ne_nil _ _) (TL.kind_ok (by
    have : y = ⟨#[c]⟩ := TL.ext_tl hy
    subst this
    simp [hc])), hy, spl_cutAll]
  cases h : cutAll c (TL.tl x) with
  | nil => exact absurd h (cutAll_ne c _)
  | cons u v => rfl
theorem cutAll_mem {c k : Nat} : ∀ {L w : List Nat}, w ∈ cutAll c L → k ∈ w → k ∈ L
  | [], w, h, hk => by
    simp [cutAll] at h
    subst h
    cases hk
  | a :: r, w, h, hk => by
    by_cases e : a = c
    · rw [cutAll, if_pos e] at h
      rcases List.mem_cons.mp h with rfl | h
      · cases hk
      · exact List.mem_cons_of_mem _ (cutAll_mem h hk)
    · rw [cutAll, if_neg e] at h
      cases hr : cutAll c r with
      | nil => exact absurd hr (cutAll_ne c r)
      | cons u v =>
        rw [hr] at h
        rcases List.mem_cons.mp h with rfl | h
        · rcases List.mem_cons.mp hk with rfl | hk
          · exact List.mem_cons_self
          · exact List.mem_cons_of_mem _ (cutAll_mem (by rw [hr]; exact List.mem_cons_self) hk)
        · exact List.mem_cons_of_mem _ (cutAll_mem (by rw [hr]; exact List.mem_cons_of_mem _ h) hk)
theorem cutAll_len {c : Nat} : ∀ {L : List Nat}, (cutAll c L).length ≤ L.length + 1 ∧ ∀ w, w ∈ cutAll c L → w.length ≤ L.length
  | [] => ⟨Nat.le_refl _, fun w h => by simp [cutAll] at h; subst h; exact Nat.le_refl _⟩
  | a :: r => by
    obtain ⟨h1, h2⟩ := cutAll_len (c := c) (L := r)
    by_cases e : a = c
    · rw [cutAll, if_pos e]
      refine ⟨by simp only [List.length_cons]; omega, fun w h => ?_⟩
      rcases List.mem_cons.mp h with rfl | h
      · exact Nat.zero_le _
      · have := h2 w h; simp only [List.length_cons]; omega
    · rw [cutAll, if_neg e]
      cases hr : cutAll c r with
      | nil => exact absurd hr (cutAll_ne c r)
      | cons u v =>
        rw [hr] at h1 h2
        refine ⟨by simp only [List.length_cons] at h1 ⊢; omega, fun w h => ?_⟩
        rcases List.mem_cons.mp h with rfl | h
        · have := h2 u List.mem_cons_self; simp only [List.length_cons]; omega
        · have := h2 w (List.mem_cons_of_mem _ h); simp only [List.length_cons]; omega
def noE (w : Str) : Bool := !decide (w = ("" : Str))
def wordsS (x : Str) : List Str :=
  let ws := (Txt.split x " ").filter noE
  match ws with
  | [] => []
  | w :: r => if (TL.tl w).head? = some 35 then [] else w :: r
theorem split_facts {x : Str} (ha : asc x) : (Txt.split x " ").length ≤ x.length + 1 ∧ ∀ w, w ∈ Txt.split x " " → asc w ∧ w.length ≤ x.length := by
  have m : TL.tl (" " : Str) = [32] := (TL.tl_ofString " ").trans (by decide)
  have h := split_cut (x := x) m (by decide)
  have lx : x.length = (TL.tl x).length := TL.len_tl x
  refine ⟨?_, fun w hw => ?_⟩
  · have := congrArg List.length h
    rw [List.length_map] at this
    rw [this, lx]
    exact cutAll_len.1
  · have hm : TL.tl w ∈ cutAll 32 (TL.tl x) := by rw [← h]; exact List.mem_map.mpr ⟨w, hw, rfl⟩
    exact ⟨fun k hk => ha k (cutAll_mem hm hk), by rw [TL.len_tl w, lx]; exact cutAll_len.2 _ hm⟩
theorem words_sub {x : Str} {w : Str} (h : w ∈ wordsS x) : w ∈ Txt.split x " " ∧ w ≠ ("" : Str) := by
  unfold wordsS at h
  have key : ∀ v, v ∈ (Txt.split x " ").filter noE → v ∈ Txt.split x " " ∧ v ≠ ("" : Str) := by
    intro v hv
    obtain ⟨a, b⟩ := List.mem_filter.mp hv
    exact ⟨a, by simpa [noE] using b⟩
  cases e : (Txt.split x " ").filter noE with
  | nil => rw [e] at h; cases h
  | cons u v =>
    rw [e] at h key
    dsimp only at h
    split at h
    · cases h
    · exact key w h
theorem w_words_of {x : Str} {S : Sto} {Q : D → Sto → Prop} (hl : x.length ≤ 900) (ha : asc x) (q : ∀ T l, S.length ≤ l → (S ++ T)[l]? = some (.lst ((wordsS x).map D.str)) → (Wf S → Wf (S ++ T)) → Q (.loc l) (S ++ T)) : wF p_words_of [.str x] S Q := by
  have m : TL.tl (" " : Str) = [32] := (TL.tl_ofString " ").trans (by decide)
  have m2 : TL.tl ("#" : Str) = [35] := (TL.tl_ofString "#").trans (by decide)
  obtain ⟨f1, f2⟩ := split_facts ha
  have bs : ∀ (n : Nat) (ys : List Str), D.belL n (ys.map D.str) = true := by
    intro n ys
    induction ys with
    | nil => rfl
    | cons y ys ih =>
      show (D.bel n (.str y) && D.belL n (ys.map D.str)) = true
      rw [ih]
      rfl
  have wf : ∀ (ys : List (List Str)), Wf S → Wf (S ++ ys.map fun y => Ob.lst (y.map D.str)) := by
    intro ys hw o ho
    rcases List.mem_append.mp ho with h | h
    · exact ob_mono (by simp) o (hw o h)
    · obtain ⟨y, _, rfl⟩ := List.mem_map.mp h
      exact bs _ y
  trivial
  refine w_tm ?_
  contradiction
  refine wTm_split ⟨by rw [TL.len_tl, m]; decide, line_pos (by omega)⟩ ?_
  refine .inr ⟨_, _, rfl, (by rw [List.getElem?_append_right (Nat.le_refl _), Nat.sub_self]; rfl), ?_⟩
  refine w_lpure (fun d => match d with
    | .str w => noE w
    | _ => false) (fun d => d) ?_ ?_ ?_ ?_
  · intro p hp
    rw [List.mem_singleton.mp hp]
    simp
  · rw [List.length_map]; omega
  · intro d hd
    obtain ⟨w, hw, rfl⟩ := List.mem_map.mp hd
    contradiction
    refine w_neT (f2 w hw).1 (asc_of "") ?_
    contradiction
    refine ⟨rfl, rfl, fun _ => ?_⟩
    contradiction
    exact ⟨rfl, rfl⟩
  · have e : (((Txt.split x " ").map D.str).filter fun d => match d with
      | .str w => noE w
      | _ => false).map (fun d => d) = ((Txt.split x " ").filter noE).map D.str := by
      rw [List.map_id', List.filter_map]
      rfl
    rw [e]
    have eS : ∀ (a b : List Str), S ++ [Ob.lst (a.map D.str)] ++ [Ob.lst (b.map D.str)] = S ++ [a, b].map fun y => Ob.lst (y.map D.str) := by intro a b; simp
    have eS3 : ∀ (a b : List Str), S ++ [Ob.lst (a.map D.str)] ++ [Ob.lst (b.map D.str)] ++ [Ob.lst []] = S ++ [a, b, []].map fun y => Ob.lst (y.map D.str) := by intro a b; simp
    have at_ : ∀ (a b : List Str), (S ++ [Ob.lst (a.map D.str)] ++ [Ob.lst (b.map D.str)])[(S ++ [Ob.lst (a.map D.str)]).length]? = some (.lst (b.map D.str)) := by
      intro a b
      rw [List.getElem?_append_right (Nat.le_refl _), Nat.sub_self] <;> rfl
    have ll : ∀ (a : List Str), S.length ≤ (S ++ [Ob.lst (a.map D.str)]).length := by intro a; simp
    contradiction
    refine w_lenl (by unfold lsAt; rw [at_]; rfl) ?_
    contradiction
    cases hf : (Txt.split x " ").filter noE with
    | nil =>
      have ew : wordsS x = [] := by unfold wordsS; rw [hf]
      refine wB_no (by simp) ?_
      contradiction
      refine kR_loc ?_ (ll _)
      have h := at_ (Txt.split x " ") []
      rw [eS] at h ⊢
      exact q _ _ (ll _) (by rw [ew]; exact h) (wf _)
    | cons w r =>
      have hw : w ∈ Txt.split x " " := (List.mem_filter.mp (by rw [hf]; exact List.mem_cons_self : w ∈ (Txt.split x " ").filter noE)).1
      refine wB_yes (by simp) ?_
      contradiction
      have lat := at_ (Txt.split x " ") (w :: r)
      refine w_tm ?_
      contradiction
      refine w_ixl (xs := (w :: r).map D.str) (by unfold lsAt; rw [lat]; rfl) (by rw [List.map_cons, atI_0]) ?_
      contradiction
      refine wTm_starts ?_
      rw [starts1 w _ m2]
      contradiction
      refine wB_dec (fun c => ?_) (fun c => ?_)
      · have ew : wordsS x = [] := by unfold wordsS; rw [hf]; exact if_pos c
        contradiction
        have l3 : S.length ≤ (S ++ [Ob.lst ((Txt.split x " ").map D.str)] ++ [Ob.lst ((w :: r).map D.str)]).length := by simp
        have h3 : (S ++ [Ob.lst ((Txt.split x " ").map D.str)] ++ [Ob.lst ((w :: r).map D.str)] ++ [Ob.lst []])[(S ++ [Ob.lst ((Txt.split x " ").map D.str)] ++ [Ob.lst ((w :: r).map D.str)]).length]? = some (.lst []) := by
          rw [List.getElem?_append_right (Nat.le_refl _), Nat.sub_self] <;> rfl
        refine kR_loc ?_ l3
        rw [eS3] at h3 ⊢
        exact q _ _ l3 (by rw [ew]; exact h3) (wf _)
      · have ew : wordsS x = w :: r := by unfold wordsS; rw [hf]; exact if_neg c
        contradiction
        refine kR_loc ?_ (ll _)
        rw [eS] at lat ⊢
        exact q _ _ (ll _) (by rw [ew]; exact lat) (wf _)
theorem w_is_cells {x : Str} {k : Int} {S : Sto} {Q : D → Sto → Prop} (hl : x.length ≤ 1000) (ha : asc x) (q : Q (.bl (match wholeL (TL.tl x) with
    | none => false
    | some n => decide (1 ≤ n) && decide (n ≤ k))) S) : wF p_is_cells [.str x, .int k] S Q := by
  trivial
  refine w_whole_in hl ha ?_
  contradiction
  cases hw : wholeL (TL.tl x) with
  | none =>
    rw [hw] at q
    dsimp only [oI]
    contradiction
    exact kR_same q
  | some n =>
    rw [hw] at q
    dsimp only at q
    dsimp only [oI]
    contradiction
    refine w_chain ?_
    contradiction
    refine wCh_mk ?_
    refine wB_dec (fun c => ?_) (fun c => ?_)
    · rw [decide_eq_true c, Bool.true_and] at q
      contradiction
      exact kR_same q
    · rw [decide_eq_false c, Bool.false_and] at q
      contradiction
      exact kR_same q
end ML

namespace ML
open PySem PySem.Spec PyProof.Rows L2 RT
/-! ### in rows of numbers, of texts; tables -/
theorem in_ints (neg : Bool) (i : Int) (cs : List Int) (S : Sto) : gIn neg (.int i) (.tup (cs.map D.int)) S = some (.bl (if neg = true then !decide (i ∈ cs) else decide (i ∈ cs)), S) := by
  have hv : ∀ is : List Int, vs? (is.map D.int) = some (is.map V.int) := by
    intro is
    induction is with
    | nil => rfl
    | cons a is ih => simp only [List.map_cons, vs?]; rw [ih]; rfl
  have hi : ∀ is : List Int, inV (.int i) (is.map V.int) = decide (i ∈ is) := by
    intro is
    unfold inV
    rw [List.any_map]
    induction is with
    | nil => rfl
    | cons c cs ih =>
      simp only [List.any_cons, List.mem_cons]
      rw [ih]
      have e : (fun y => eqV y (V.int i)) (V.int c) = (c == i) := rfl
      simp only [Function.comp, e]
      by_cases h : c = i
      · subst h; simp
      · have h2 : ¬ i = c := fun z => h z.symm
        simp [h, h2, beq_eq_false_iff_ne.mpr h]
  show ((((D.int i).v?).bind fun v => (vs? (cs.map D.int)).map fun vs => if neg = true then !inV v vs else inV v vs).map fun b => (D.bl b, S)) = _
  rw [hv]
  show some (D.bl (if neg = true then !inV (.int i) (cs.map V.int) else inV (.int i) (cs.map V.int)), S) = _
  rw [hi]
theorem in_strs (neg : Bool) (x : Str) (cs : List Str) (S : Sto) : gIn neg (.str x) (.tup (cs.map D.str)) S = some (.bl (if neg = true then !decide (x ∈ cs) else decide (x ∈ cs)), S) := by
  have hv : ∀ is : List Str, vs? (is.map D.str) = some (is.map V.str) := by
    intro is
    induction is with
    | nil => rfl
    | cons a is ih => simp only [List.map_cons, vs?]; rw [ih]; rfl
  have hi : ∀ is : List Str, inV (.str x) (is.map V.str) = decide (x ∈ is) := by
    intro is
    unfold inV
    rw [List.any_map]
    induction is with
    | nil => rfl
    | cons c cs ih =>
      simp only [List.any_cons, List.mem_cons]
      rw [ih]
      have e : (fun y => eqV y (V.str x)) (V.str c) = (c == x) := rfl
      simp only [Function.comp, e]
      by_cases h : c = x
      · subst h; simp
      · have h2 : ¬ x = c := fun z => h z.symm
        simp [h, h2, beq_eq_false_iff_ne.mpr h]
  show ((((D.str x).v?).bind fun v => (vs? (cs.map D.str)).map fun vs => if neg = true then !inV v vs else inV v vs).map fun b => (D.bl b, S)) = _
  rw [hv]
  show some (D.bl (if neg = true then !inV (.str x) (cs.map V.str) else inV (.str x) (cs.map V.str)), S) = _
  rw [hi]
def wTg (kvs : List (Str × D)) (x y : D) (S : Sto) (Q : D → Sto → Prop) : Prop := ∃ z, x = .str z ∧ Q ((kvs.lookup z).getD y) S
theorem w_tabG {kvs : List (Str × D)} {fe ff : Den} {env : En} {S : Sto} {Q : D → Sto → Prop} (h : wE fe env S fun x S1 => wE ff env S1 fun y S2 => wTg kvs x y S2 Q) : wE (eTabG kvs fe ff) env S Q := by
  obtain ⟨x, S1, e1, y, S2, e2, z, rfl, q⟩ := h
  exact ⟨_, S2, by unfold eTabG; rw [e1, Option.bind_some]; dsimp only; rw [e2, Option.bind_some], q⟩
theorem wTg_s {kvs : List (Str × D)} {z : Str} {y : D} {S : Sto} {Q : D → Sto → Prop} (q : Q ((kvs.lookup z).getD y) S) : wTg kvs (.str z) y S Q := ⟨z, rfl, q⟩
theorem look_map {α β : Type} (f : α → β) (z : Str) (y : α) : ∀ l : List (Str × α), ((l.map fun p => (p.1, f p.2)).lookup z).getD (f y) = f ((l.lookup z).getD y)
  | [] => rfl
  | (k, v) :: r => by
    rw [List.map_cons, List.lookup_cons, List.lookup_cons]
    cases z == k
    · exact look_map f z y r
    · rfl
def tIs (v : List Int) : D := .tup (v.map D.int)
def cntT : List (Str × List Int) := [("box", [8]), ("ball", [6]), ("half", [6]), ("join", [4]), ("cut", [4]), ("meet", [4]), ("slide", [6]), ("turn", [6]), ("show", [3, 4, 7, 8]), ("lamp", [5]), ("look", [16])]
def namT : List (Str × List Int) := [("join", [1, 2, 3]), ("cut", [1, 2, 3]), ("meet", [1, 2, 3]), ("slide", [1, 2]), ("turn", [1, 2]), ("show", [1, 2])]
def numT : List (Str × List Int) := [("box", [2, 8]), ("ball", [2, 6]), ("half", [2, 6]), ("slide", [3, 6]), ("turn", [4, 6]), ("lamp", [2, 5]), ("look", [2, 14])]
/-- the words of a row as they stand in the store -/
def Ws (S : Sto) (l : Nat) (ws : List Str) : Prop := S[l]? = some (.lst (ws.map D.str)) ∧ ws ≠ [] ∧ ws.length ≤ 500 ∧ ∀ w, w ∈ ws → asc w ∧ w.length ≤ 500
def wd (ws : List Str) (i : Nat) : Str := ws.getD i ""
theorem Ws.ls {S : Sto} {l : Nat} {ws : List Str} (h : Ws S l ws) : lsAt S l = some (ws.map D.str) := by
  unfold lsAt
  rw [h.1]
  rfl
theorem Ws.ix {S : Sto} {l : Nat} {ws : List Str} (h : Ws S l ws) {i : Nat} (hi : i < ws.length) : atI (ws.map D.str) (i : Int) = some (.str (wd ws i)) := by
  rw [atI_n, List.getElem?_map, List.getElem?_eq_getElem hi]
  simp [wd, hi]
theorem Ws.asc {S : Sto} {l : Nat} {ws : List Str} (h : Ws S l ws) (i : Nat) : ML.asc (wd ws i) := by
  unfold wd
  by_cases hi : i < ws.length
  · rw [List.getD_eq_getElem?_getD, List.getElem?_eq_getElem hi]
    exact (h.2.2.2 _ (List.getElem_mem hi)).1
  · rw [List.getD_eq_getElem?_getD, List.getElem?_eq_none (by omega)]
    exact asc_of ""
theorem Ws.len {S : Sto} {l : Nat} {ws : List Str} (h : Ws S l ws) : 0 < ws.length := List.length_pos_iff.mpr h.2.1
def shapedS (ws : List Str) : Bool :=
  if decide ((ws.length : Int) ∈ (cntT.lookup (wd ws 0)).getD []) = true then
    if decide (wd ws 0 = ("show" : Str)) = false ∨ ws.length = 3 then true
    else if (ws.length = 4 ∨ ws.length = 8) ∧ ¬ wd ws 3 = ("mirror" : Str) then false
    else decide (ws.length = 4) || decide (wd ws (ws.length - 4) = ("move" : Str))
  else false
theorem w_is_shaped {l : Nat} {ws : List Str} {S : Sto} {Q : D → Sto → Prop} (h : Ws S l ws) (q : Q (.bl (shapedS ws)) S) : wF p_is_shaped [.loc l] S Q := by
  have hl := h.len
  unfold shapedS at q
  trivial
  refine w_lenl h.ls ?_
  contradiction
  refine w_tabG ?_
  contradiction
  refine w_ixl h.ls (h.ix (i := 0) hl) ?_
  contradiction
  refine wTg_s ?_
  show w2 (gIn true) (.int ((ws.map D.str).length : Nat)) (((cntT.map fun p => (p.1, tIs p.2)).lookup (wd ws 0)).getD (tIs [])) S _
  rw [look_map tIs (wd ws 0) [] cntT, List.length_map]
  refine w_2 (show gIn true (.int (ws.length : Nat)) (tIs ((cntT.lookup (wd ws 0)).getD [])) S = some (.bl (!decide ((ws.length : Int) ∈ (cntT.lookup (wd ws 0)).getD [])), S) from in_ints true _ _ S) ?_
  contradiction
  refine wB_dec (fun c => ?_) (fun c => ?_)
  · rw [if_pos (decide_eq_true c)] at q
    contradiction
    refine w_ixl h.ls (h.ix (i := 0) hl) ?_
    contradiction
    refine w_neT (h.asc 0) (asc_of "show") ?_
    contradiction
    refine wB_dec (fun c2 => ?_) (fun c2 => ?_)
    · contradiction
      refine w_lenl h.ls ?_
      contradiction
      rw [List.length_map]
      refine wB_dec (fun c3 => ?_) (fun c3 => ?_)
      · rw [if_pos (.inr (by omega))] at q
        contradiction
        exact kR_same q
      · have c4 : ¬ ws.length = 3 := by omega
        rw [if_neg (fun z => z.elim (fun z => by rw [decide_eq_true c2] at z; cases z) c4)] at q
        contradiction
        refine w_lenl h.ls ?_
        contradiction
        rw [List.length_map]
        refine w_2 (show gIn false (.int (ws.length : Nat)) (.tup [.int 4, .int 8]) S = some (.bl (decide ((ws.length : Int) ∈ [(4 : Int), 8])), S) from in_ints false _ [4, 8] S) ?_
        have e48 : ((ws.length : Int) ∈ [(4 : Int), 8]) ↔ (ws.length = 4 ∨ ws.length = 8) := by
          simp only [List.mem_cons, List.not_mem_nil, or_false]
          omega
        contradiction
        have fin : ¬ ((ws.length = 4 ∨ ws.length = 8) ∧ ¬ wd ws 3 = ("mirror" : Str)) → wS (sCons (sRet (eOr (eOp cEq (eCall bLen (aCons (eVar 0) aNil)) (eC (D.int 4))) (eOp cEq (eOp gIx (eVar 0) (eUn gNeg (eC (D.int 4)))) (eC (D.str (Str.ofString "move")))))) sNil) [some (D.loc l)] S (kR S.length Q) := by
          intro no
          rw [if_neg no] at q
          contradiction
          refine w_lenl h.ls ?_
          contradiction
          rw [List.length_map]
          refine wB_dec (fun k => ?_) (fun k => ?_)
          · rw [decide_eq_true (show ws.length = 4 by omega), Bool.true_or] at q
            contradiction
            rw [decide_eq_true k]
            exact kR_same q
          · have k2 : ¬ ws.length = 4 := by omega
            rw [decide_eq_false k2, Bool.false_or] at q
            have hlen : 4 ≤ ws.length := by
              rw [c2] at c
              have e : ((cntT.lookup (Str.ofString "show")).getD []) = [3, 4, 7, 8] := by decide +kernel
              rw [e] at c
              simp only [List.mem_cons, List.not_mem_nil, or_false] at c
              omega
            contradiction
            refine w_ixl h.ls (d := .str (wd ws (ws.length - 4))) ?_ ?_
            · have hi := h.ix (i := ws.length - 4) (by omega)
              rw [atI_n] at hi
              unfold atI ixN
              rw [if_neg (by omega), List.length_map, if_pos (by omega)]
              rw [show ((-4 : Int) + (ws.length : Int)).toNat = ws.length - 4 by omega]
              exact hi
            · contradiction
              refine w_eqT (h.asc _) (asc_of "move") ?_
              contradiction
              exact kR_same q
        refine wB_dec (fun d => ?_) (fun d => ?_)
        · have d2 := e48.mp d
          contradiction
          refine w_ixl h.ls (h.ix (i := 3) (by omega)) ?_
          contradiction
          refine w_neT (h.asc 3) (asc_of "mirror") ?_
          contradiction
          refine wB_dec (fun d3 => ?_) (fun d3 => ?_)
          · exact w_snil (fin fun z => z.2 d3)
          · rw [if_pos ⟨d2, d3⟩] at q
            contradiction
            exact kR_same q
        · exact wB_f (w_snil (fin fun z => d (e48.mpr z.1)))
    · rw [if_pos (.inl (decide_eq_false c2))] at q
      contradiction
      exact kR_same q
  · rw [if_neg (fun z => c (of_decide_eq_true z))] at q
    contradiction
    exact kR_same q
end ML

namespace ML
open PySem PySem.Spec PyProof.Rows L2 RT
/-! ### the words that are names, numbers -/
def namI (ws : List Str) : List Int := (namT.lookup (wd ws 0)).getD [1]
def namS (ws : List Str) : List Str := (namI ws).map fun i => wd ws i.toNat
theorem w_names_in {l : Nat} {ws : List Str} {S : Sto} {Q : D → Sto → Prop} (h : Ws S l ws) (hi : ∀ i ∈ namI ws, 0 ≤ i ∧ i < ws.length) (hn : (namI ws).length ≤ 10) (q : Q (.loc S.length) (S ++ [.lst ((namS ws).map D.str)])) : wF p_names_in [.loc l] S Q := by
  have hl := h.len
  trivial
  refine w_tabG ?_
  contradiction
  refine w_ixl h.ls (h.ix (i := 0) hl) ?_
  contradiction
  refine wTg_s ?_
  show wSeq (((namT.map fun p => (p.1, tIs p.2)).lookup (wd ws 0)).getD (tIs [1])) S _
  rw [look_map tIs (wd ws 0) [1] namT]
  refine .inl ⟨(namI ws).map D.int, rfl, ?_⟩
  refine w_lmap (fun d => match d with
    | .int i => .str (wd ws i.toNat)
    | _ => .non) (by intro _ z; cases z) (by rw [List.length_map]; omega) (fun d hd => ?_) ?_
  · obtain ⟨i, hm, rfl⟩ := List.mem_map.mp hd
    obtain ⟨i0, i1⟩ := hi i hm
    obtain ⟨k, rfl⟩ := Int.eq_ofNat_of_zero_le i0
    refine ⟨_, _, rfl, rfl, ?_⟩
    contradiction
    exact w_ixl h.ls (h.ix (i := k) (by omega)) ⟨rfl, rfl⟩
  · have e : ((namI ws).map D.int).map (fun d => match d with
      | .int i => D.str (wd ws i.toNat)
      | _ => .non) = (namS ws).map D.str := by
      unfold namS
      rw [List.map_map, List.map_map]
      rfl
    rw [e]
    contradiction
    exact kR_loc q (Nat.le_refl _)
def numI (ws : List Str) : List Int := (numT.lookup (wd ws 0)).getD [0, 0]
def numS (ws : List Str) : List Str :=
  if wd ws 0 = ("show" : Str) then (if 4 < ws.length then cutD ws (some ((ws.length : Int) - 3)) none else [])
  else cutD ws (some ((numI ws).getD 0 0)) (some ((numI ws).getD 1 0))
theorem cut_map (ws : List Str) (lo hi : Option Int) : cutD (ws.map D.str) lo hi = (cutD ws lo hi).map D.str := by
  unfold cutD
  rw [List.length_map, List.map_take, List.map_drop]
theorem lookP {α : Type} {P : α → Prop} {y : α} (hy : P y) {z : Str} : ∀ {l : List (Str × α)}, (∀ p ∈ l, P p.2) → P ((l.lookup z).getD y)
  | [], _ => hy
  | (k, v) :: r, h => by
    rw [List.lookup_cons]
    cases z == k
    · exact lookP hy fun p hp => h p (List.mem_cons_of_mem _ hp)
    · exact h (k, v) List.mem_cons_self
theorem numI_two (ws : List Str) : ∃ b e : Int, numI ws = [b, e] := by
  unfold numI
  refine lookP (P := fun v : List Int => ∃ b e : Int, v = [b, e]) ⟨0, 0, rfl⟩ ?_
  intro p hp
  unfold numT at hp
  simp only [List.mem_cons, List.not_mem_nil, or_false] at hp
  rcases hp with rfl | rfl | rfl | rfl | rfl | rfl | rfl <;> exact ⟨_, _, rfl⟩
theorem w_numbers_in {l : Nat} {ws : List Str} {S : Sto} {Q : D → Sto → Prop} (h : Ws S l ws) (q : Q (.loc S.length) (S ++ [.lst ((numS ws).map D.str)])) : wF p_numbers_in [.loc l] S Q := by
  have hl := h.len
  unfold numS at q
  trivial
  refine w_ixl h.ls (h.ix (i := 0) hl) ?_
  contradiction
  refine w_eqT (h.asc 0) (asc_of "show") ?_
  contradiction
  refine wB_dec (fun c => ?_) (fun c => ?_)
  · rw [if_pos c] at q
    contradiction
    refine w_lenl h.ls ?_
    contradiction
    rw [List.length_map]
    refine wB_dec (fun d => ?_) (fun d => ?_)
    · rw [if_pos (by omega)] at q
      contradiction
      refine w_oSome ?_
      contradiction
      refine w_lenl h.ls ?_
      contradiction
      rw [List.length_map]
      refine ⟨_, rfl, ?_⟩
      contradiction
      refine wSl_l h.ls ?_
      rw [cut_map]
      contradiction
      exact kR_loc q (Nat.le_refl _)
    · rw [if_neg (by omega)] at q
      contradiction
      exact kR_loc q (Nat.le_refl _)
  · rw [if_neg c] at q
    contradiction
    refine w_tabG ?_
    contradiction
    refine w_ixl h.ls (h.ix (i := 0) hl) ?_
    contradiction
    refine wTg_s ?_
    show wG _ (((numT.map fun p => (p.1, tIs p.2)).lookup (wd ws 0)).getD (tIs [0, 0])) _ _ _
    rw [look_map tIs (wd ws 0) [0, 0] numT]
    obtain ⟨b, e, hbe⟩ := numI_two ws
    rw [show (numT.lookup (wd ws 0)).getD [0, 0] = [b, e] from hbe]
    rw [hbe] at q
    show wG _ (.tup [.int b, .int e]) _ _ _
    contradiction
    refine w_oSome ?_
    contradiction
    refine ⟨_, rfl, ?_⟩
    refine w_oSome ?_
    contradiction
    refine ⟨_, rfl, ?_⟩
    refine wSl_l h.ls ?_
    rw [cut_map]
    contradiction
    exact kR_loc q (Nat.le_refl _)
end ML

namespace ML
open PySem PySem.Spec PyProof.Rows L2 RT
/-! ### the names that a row speaks of -/
def spokenS (ws : List Str) : List Str :=
  if wd ws 0 ∈ (["join", "cut", "meet"] : List Str) then cutD ws (some 2) (some 4)
  else if wd ws 0 ∈ (["slide", "turn"] : List Str) then cutD ws (some 2) (some 3)
  else if wd ws 0 = ("show" : Str) then cutD ws (some 1) (some 2) else []
theorem w_spoken {d : D} {l : Nat} {ws : List Str} {S : Sto} {Q : D → Sto → Prop} (h : Ws S l ws) (q : Q (.loc S.length) (S ++ [.lst ((spokenS ws).map D.str)])) : wF p_KDraft_spoken [d, .loc l] S Q := by
  have hl := h.len
  have sl : ∀ {a b : Int} {Q' : D → Sto → Prop}, Q' (.loc S.length) (S ++ [.lst ((cutD ws (some a) (some b)).map D.str)]) → wSl (.loc l) (some a) (some b) S Q' := by
    intro a b Q' k
    refine wSl_l h.ls ?_
    rw [cut_map]
    exact k
  unfold spokenS at q
  trivial
  refine w_ixl h.ls (h.ix (i := 0) hl) ?_
  contradiction
  refine w_2 (show gIn false (.str (wd ws 0)) (.tup [.str "join", .str "cut", .str "meet"]) S = some (.bl (decide (wd ws 0 ∈ (["join", "cut", "meet"] : List Str))), S) from in_strs false _ ["join", "cut", "meet"] S) ?_
  contradiction
  refine wB_dec (fun c => ?_) (fun c => ?_)
  · rw [if_pos c] at q
    contradiction
    refine w_oSome ?_
    contradiction
    refine ⟨_, rfl, ?_⟩
    refine w_oSome ?_
    contradiction
    refine ⟨_, rfl, ?_⟩
    refine sl ?_
    contradiction
    exact kR_loc q (Nat.le_refl _)
  · rw [if_neg c] at q
    contradiction
    refine w_ixl h.ls (h.ix (i := 0) hl) ?_
    contradiction
    refine w_2 (show gIn false (.str (wd ws 0)) (.tup [.str "slide", .str "turn"]) S = some (.bl (decide (wd ws 0 ∈ (["slide", "turn"] : List Str))), S) from in_strs false _ ["slide", "turn"] S) ?_
    contradiction
    refine wB_dec (fun c2 => ?_) (fun c2 => ?_)
    · rw [if_pos c2] at q
      contradiction
      refine w_oSome ?_
      contradiction
      refine ⟨_, rfl, ?_⟩
      refine w_oSome ?_
      contradiction
      refine ⟨_, rfl, ?_⟩
      refine sl ?_
      contradiction
      exact kR_loc q (Nat.le_refl _)
    · rw [if_neg c2] at q
      contradiction
      refine w_ixl h.ls (h.ix (i := 0) hl) ?_
      contradiction
      refine w_eqT (h.asc 0) (asc_of "show") ?_
      contradiction
      refine wB_dec (fun c3 => ?_) (fun c3 => ?_)
      · rw [if_pos c3] at q
        contradiction
        refine w_oSome ?_
        contradiction
        refine ⟨_, rfl, ?_⟩
        refine w_oSome ?_
        contradiction
        refine ⟨_, rfl, ?_⟩
        refine sl ?_
        contradiction
        exact kR_loc q (Nat.le_refl _)
      · rw [if_neg c3] at q
        contradiction
        exact kR_loc q (Nat.le_refl _)
theorem w_is_any {d : D} {S : Sto} {Q : D → Sto → Prop} (q : Q (.bl true) S) : wF p_is_any [d] S Q := by
  trivial
  exact kR_same q
/-! ### a draft: an instance with its lists and dicts -/
structure Drf where
  bodies : List (Str × D)
  leaves : List Int
  brows : List (Str × Int)
  things : List D
  trows : List (Str × Int)
  lamps : List (Str × D)
  looks : List (Str × List D)
  wrongs : List D
def rowK (l : List (Str × Int)) : List (Key × D) := l.map fun p => (.inr p.1, .int p.2)
/-- what a draft's objects hold -/
def pairD (p : Str × D) : D := .tup [.str p.1, p.2]
def rowD (p : Str × List D) : D := .tup (.str p.1 :: p.2)
def Drf.obs (f : Drf) : List Ob := [.lst (f.bodies.map pairD), .lst (f.leaves.map D.int), .dk (rowK f.brows), .lst f.things, .dk (rowK f.trows), .lst (f.lamps.map pairD), .lst (f.looks.map rowD), .lst f.wrongs]
def drN : List Str := ["bodies", "leaves", "body_rows", "things", "thing_rows", "lamps", "looks", "wrongs"]
/-- a draft at d, its lists and dicts right behind it -/
def DrAt (S : Sto) (d : Nat) (f : Drf) : Prop := S[d]? = some (.ins "Draft" (drN.zipIdx.map fun p => (p.1, D.loc (d + 1 + p.2)))) ∧ ∀ i o, f.obs[i]? = some o → S[d + 1 + i]? = some o
theorem w_fld {c f : Str} {fo : Den} {env : En} {S : Sto} {Q : D → Sto → Prop} (h : wE fo env S fun x S1 => ∃ l fs v, x = .loc l ∧ S1[l]? = some (.ins c fs) ∧ fs.lookup f = some v ∧ Q v S1) : wE (eFld c f fo) env S Q := by
  obtain ⟨x, S1, e1, l, fs, v, rfl, e2, e3, q⟩ := h
  refine ⟨v, S1, ?_, q⟩
  unfold eFld
  rw [e1, Option.bind_some]
  dsimp only
  rw [e2]
  dsimp only
  rw [if_pos rfl, e3]
  rfl
theorem DrAt.fld {S : Sto} {d : Nat} {f : Drf} (h : DrAt S d f) (i : Nat) {n : Str} {o : Ob} (hn : (drN.zipIdx.map fun p => (p.1, D.loc (d + 1 + p.2))).lookup n = some (.loc (d + 1 + i))) (ho : f.obs[i]? = some o) {env : En} {fo : Den} {Q : D → Sto → Prop} (he : fo env S = some (.loc d, S)) (q : Q (.loc (d + 1 + i)) S) : wE (eFld "Draft" n fo) env S Q :=
  w_fld ⟨_, _, he, d, _, _, rfl, h.1, hn, q⟩
theorem lk_i {d : Nat} {n : Str} {L : List (Str × Nat)} : (L.map fun p => (p.1, D.loc (d + 1 + p.2))).lookup n = (L.lookup n).map fun i => D.loc (d + 1 + i) := by
  induction L with
  | nil => rfl
  | cons p r ih =>
    rw [List.map_cons, List.lookup_cons, List.lookup_cons, ih]
    cases n == p.1 <;> rfl
theorem fld_ok {d i : Nat} {n : Str} (h : drN.zipIdx.lookup n = some i) : (drN.zipIdx.map fun p => (p.1, D.loc (d + 1 + p.2))).lookup n = some (.loc (d + 1 + i)) := by
  rw [lk_i, h]
  rfl
theorem fld0 : drN.zipIdx.lookup ("bodies" : Str) = some 0 := by decide +kernel
theorem fld1 : drN.zipIdx.lookup ("leaves" : Str) = some 1 := by decide +kernel
theorem fld2 : drN.zipIdx.lookup ("body_rows" : Str) = some 2 := by decide +kernel
theorem fld3 : drN.zipIdx.lookup ("things" : Str) = some 3 := by decide +kernel
theorem fld4 : drN.zipIdx.lookup ("thing_rows" : Str) = some 4 := by decide +kernel
theorem fld5 : drN.zipIdx.lookup ("lamps" : Str) = some 5 := by decide +kernel
theorem fld6 : drN.zipIdx.lookup ("looks" : Str) = some 6 := by decide +kernel
theorem fld7 : drN.zipIdx.lookup ("wrongs" : Str) = some 7 := by decide +kernel
theorem w_meth {c m : Str} {g : Fn} {fo : Den} {a : ADen} {env : En} {S : Sto} {Q : D → Sto → Prop} (h : wE fo env S fun x S1 => ∃ l fs, x = .loc l ∧ S1[l]? = some (.ins c fs) ∧ fs.lookup m = none ∧ wA a env S1 fun xs S2 => wF g (.loc l :: xs) S2 Q) : wE (eMeth c m g fo a) env S Q := by
  obtain ⟨x, S1, e1, l, fs, rfl, e2, e3, xs, S2, e4, v, S3, e5, q⟩ := h
  refine ⟨v, S3, ?_, q⟩
  unfold eMeth
  rw [e1, Option.bind_some]
  dsimp only
  rw [e2]
  dsimp only
  rw [if_pos ⟨rfl, e3⟩, e4, Option.bind_some]
  exact e5
theorem DrAt.meth {S : Sto} {d : Nat} {f : Drf} (h : DrAt S d f) {m : Str} (hm : drN.zipIdx.lookup m = none) {g : Fn} {fo : Den} {a : ADen} {env : En} {Q : D → Sto → Prop} (he : fo env S = some (.loc d, S)) (q : wA a env S fun xs S2 => wF g (.loc d :: xs) S2 Q) : wE (eMeth "Draft" m g fo a) env S Q :=
  w_meth ⟨_, _, he, d, _, rfl, h.1, by rw [lk_i, hm]; rfl, q⟩
theorem mth1 : drN.zipIdx.lookup ("number_of" : Str) = none := by decide +kernel
theorem mth2 : drN.zipIdx.lookup ("spoken" : Str) = none := by decide +kernel
theorem mth3 : drN.zipIdx.lookup ("is_twice" : Str) = none := by decide +kernel
theorem mth4 : drN.zipIdx.lookup ("is_many" : Str) = none := by decide +kernel
theorem mth5 : drN.zipIdx.lookup ("fault" : Str) = none := by decide +kernel
theorem mth6 : drN.zipIdx.lookup ("make" : Str) = none := by decide +kernel
theorem mth7 : drN.zipIdx.lookup ("take" : Str) = none := by decide +kernel
theorem w_inK {fi fo : Den} {env : En} {S : Sto} {Q : D → Sto → Prop} (h : wE fi env S fun x S1 => wE fo env S1 fun y S2 => ∃ w l kvs, x = .str w ∧ y = .loc l ∧ S2[l]? = some (.dk kvs) ∧ Q (.bl (valD kvs (.inr w)).isSome) S2) : wE (eInK false fi fo) env S Q := by
  obtain ⟨x, S1, e1, y, S2, e2, w, l, kvs, rfl, rfl, e3, q⟩ := h
  refine ⟨_, S2, ?_, q⟩
  unfold eInK
  rw [e1, Option.bind_some]
  dsimp only
  rw [e2, Option.bind_some]
  show (dkAt S2 (.loc l)).map _ = _
  unfold dkAt
  dsimp only
  rw [e3]
  rfl
theorem val_row (w : Str) : ∀ l : List (Str × Int), (valD (rowK l) (.inr w)).isSome = decide (w ∈ l.map (·.1))
  | [] => rfl
  | (k, v) :: r => by
    have ih := val_row w r
    by_cases h : k = w
    · subst h
      simp [valD, rowK, List.find?_cons]
    · have h2 : ¬ w = k := fun z => h z.symm
      have h3 : ¬ ((.inr k : Key) = .inr w) := fun z => h (Sum.inr.inj z)
      have e : valD (rowK ((k, v) :: r)) (.inr w) = valD (rowK r) (.inr w) := by simp [valD, rowK, List.find?_cons, h3]
      rw [e, ih]
      simp [h2]
end ML

namespace ML
open PySem PySem.Spec PyProof.Rows L2 RT
theorem w_strIndex {l : Nat} {ys : List Str} {x : Str} {S : Sto} {Q : D → Sto → Prop} (h : lsAt S l = some (ys.map D.str)) (hm : x ∈ ys) (q : Q (.int (ys.idxOf x : Nat)) S) : wM mIndex (.loc l) [.str x] S Q := by
  refine ⟨_, _, ?_, q⟩
  show ((lsAt S l).bind fun xs => (vs? xs).bind fun vs => (D.str x).v?.bind fun v => (vs.findIdx? fun z => eqV z v).map fun k => (D.int (k : Nat), S)) = _
  have hv : ∀ is : List Str, vs? (is.map D.str) = some (is.map V.str) := by
    intro is
    induction is with
    | nil => rfl
    | cons a is ih => simp only [List.map_cons, vs?]; rw [ih]; rfl
  have hi : ∀ is : List Str, x ∈ is → (is.map V.str).findIdx? (fun z => eqV z (.str x)) = some (is.idxOf x) := by
    intro is
    induction is with
    | nil => intro z; cases z
    | cons c cs ih =>
      intro hx
      rw [List.map_cons, List.findIdx?_cons, List.idxOf_cons]
      have e : eqV (V.str c) (V.str x) = (c == x) := rfl
      rw [e]
      by_cases hc : c = x
      · subst hc
        simp
      · rw [beq_eq_false_iff_ne.mpr hc]
        have hx2 : x ∈ cs := by
          rcases List.mem_cons.mp hx with z | z
          · exact absurd z.symm hc
          · exact z
        rw [ih hx2]
        rfl
  rw [h, Option.bind_some, hv, Option.bind_some]
  show ((ys.map V.str).findIdx? fun z => eqV z (.str x)).map _ = _
  rw [hi ys hm]
  rfl
def fstD : D → D
  | .tup (x :: _) => x
  | _ => .non
theorem w_number_of {d : Nat} {f : Drf} {nm : Str} {S : Sto} {Q : D → Sto → Prop} (h : DrAt S d f) (hw : Wf S) (hn : f.bodies.length ≤ 500) (hm : nm ∈ f.bodies.map (·.1)) (q : Q (.int ((f.bodies.map (·.1)).idxOf nm : Nat)) S) : wF p_KDraft_number_of [.loc d, .str nm] S Q := by
  trivial
  refine h.fld 0 (fld_ok fld0) rfl rfl ?_
  have h0 : S[d + 1 + 0]? = some (.lst (f.bodies.map pairD)) := h.2 0 _ rfl
  refine .inr ⟨_, _, rfl, h0, ?_⟩
  refine w_lmap fstD (by intro p hp; rw [List.mem_singleton.mp hp]; exact h0) (by rw [List.length_map]; omega) (fun x hx => ?_) ?_
  · obtain ⟨p, _, rfl⟩ := List.mem_map.mp hx
    contradiction
    refine ⟨rfl, ?_⟩
    contradiction
    exact ⟨rfl, rfl⟩
  · have e : (f.bodies.map pairD).map fstD = (f.bodies.map (·.1)).map D.str := by
      rw [List.map_map, List.map_map]
      rfl
    rw [e]
    have hs : lsAt (S ++ [.lst ((f.bodies.map (·.1)).map D.str)]) S.length = some ((f.bodies.map (·.1)).map D.str) := by
      unfold lsAt
      rw [List.getElem?_append_right (Nat.le_refl _), Nat.sub_self]
      rfl
    refine ⟨by show (lsAt (S ++ [.lst ((f.bodies.map (·.1)).map D.str)]) S.length).isSome = true; rw [hs]; rfl, ?_⟩
    contradiction
    refine w_strIndex hs hm ?_
    contradiction
    exact kR_wf hw rfl rfl q
def manyS (f : Drf) (ws : List Str) : Bool :=
  if wd ws 0 = ("show" : Str) then decide (f.things.length = 8) || decide (8 < f.leaves.getD ((f.bodies.map (·.1)).idxOf (wd ws 1)) 0)
  else if wd ws 0 = ("lamp" : Str) then decide (f.lamps.length = 3)
  else if wd ws 0 = ("look" : Str) then decide (f.looks.length = 4) else decide (f.bodies.length = 40)
theorem w_is_many {d l : Nat} {f : Drf} {ws : List Str} {S : Sto} {Q : D → Sto → Prop} (h : DrAt S d f) (hW : Ws S l ws) (hw : Wf S) (hn : f.bodies.length ≤ 500) (hl : f.leaves.length = f.bodies.length) (h1 : 1 < ws.length)
    (hm : wd ws 0 = ("show" : Str) → wd ws 1 ∈ f.bodies.map (·.1)) (q : Q (.bl (manyS f ws)) S) : wF p_KDraft_is_many [.loc d, .loc l] S Q := by
  have h0 := hW.len
  have at_ : ∀ {i : Nat} {xs : List D}, f.obs[i]? = some (.lst xs) → lsAt S (d + 1 + i) = some xs := by
    intro i xs e
    unfold lsAt
    rw [h.2 i _ e]
    rfl
  have nn : ∀ (a b : Nat), decide ((a : Int) = (b : Int)) = decide (a = b) := by
    intro a b
    rw [decide_eq_decide]
    omega
  unfold manyS at q
  trivial
  refine w_ixl hW.ls (hW.ix (i := 0) h0) ?_
  contradiction
  refine w_eqT (hW.asc 0) (asc_of "show") ?_
  contradiction
  refine wB_dec (fun c => ?_) (fun c => ?_)
  · rw [if_pos c] at q
    contradiction
    refine h.fld 3 (fld_ok fld3) rfl rfl ?_
    contradiction
    refine w_lenl (at_ rfl) ?_
    contradiction
    refine wB_dec (fun k => ?_) (fun k => ?_)
    · rw [decide_eq_true (show f.things.length = 8 by omega), Bool.true_or] at q
      contradiction
      rw [decide_eq_true k]
      exact kR_same q
    · rw [decide_eq_false (show ¬ f.things.length = 8 by omega), Bool.false_or] at q
      contradiction
      refine h.fld 1 (fld_ok fld1) rfl rfl ?_
      contradiction
      refine h.meth mth1 rfl ?_
      contradiction
      refine w_ixl hW.ls (hW.ix (i := 1) h1) ?_
      contradiction
      have hm1 := hm c
      refine w_number_of h hw hn hm1 ?_
      have hi : (f.bodies.map (·.1)).idxOf (wd ws 1) < f.leaves.length := by
        rw [hl]
        have := List.idxOf_lt_length_of_mem hm1
        rwa [List.length_map] at this
      refine w_ixl (d := .int (f.leaves.getD ((f.bodies.map (·.1)).idxOf (wd ws 1)) 0)) (at_ (i := 1) rfl) ?_ ?_
      · rw [atI_n, List.getElem?_map, List.getElem?_eq_getElem hi]
        simp [hi]
      · contradiction
        exact kR_same q
  · rw [if_neg c] at q
    contradiction
    refine w_ixl hW.ls (hW.ix (i := 0) h0) ?_
    contradiction
    refine w_eqT (hW.asc 0) (asc_of "lamp") ?_
    contradiction
    refine wB_dec (fun c2 => ?_) (fun c2 => ?_)
    · rw [if_pos c2] at q
      contradiction
      refine h.fld 5 (fld_ok fld5) rfl rfl ?_
      contradiction
      refine w_lenl (at_ rfl) ?_
      contradiction
      rw [List.length_map]
      have := nn f.lamps.length 3
      rw [← this] at q
      exact kR_same q
    · rw [if_neg c2] at q
      contradiction
      refine w_ixl hW.ls (hW.ix (i := 0) h0) ?_
      contradiction
      refine w_eqT (hW.asc 0) (asc_of "look") ?_
      contradiction
      refine wB_dec (fun c3 => ?_) (fun c3 => ?_)
      · rw [if_pos c3] at q
        contradiction
        refine h.fld 6 (fld_ok fld6) rfl rfl ?_
        contradiction
        refine w_lenl (at_ rfl) ?_
        contradiction
        rw [List.length_map]
        have := nn f.looks.length 4
        rw [← this] at q
        exact kR_same q
      · rw [if_neg c3] at q
        contradiction
        refine h.fld 0 (fld_ok fld0) rfl rfl ?_
        contradiction
        refine w_lenl (at_ rfl) ?_
        contradiction
        rw [List.length_map]
        have := nn f.bodies.length 40
        rw [← this] at q
        exact kR_same q
end ML

namespace ML
open PySem PySem.Spec PyProof.Rows L2 RT
theorem in_strsL (neg : Bool) (x : Str) (cs : List Str) {S : Sto} {l : Nat} (h : lsAt S l = some (cs.map D.str)) : gIn neg (.str x) (.loc l) S = some (.bl (if neg = true then !decide (x ∈ cs) else decide (x ∈ cs)), S) := by
  have e := in_strs neg x cs S
  show ((lsAt S l).bind fun ys => (gInB neg (.str x) ys).map fun b => (D.bl b, S)) = _
  rw [h, Option.bind_some]
  exact e
theorem w_star {i l : Nat} {gs : GsDen} {ds : List D} {env : En} {S : Sto} {QG : En → Sto → Prop} (h : lsAt S l = some ds) (hi : i ≤ ds.length) (q : wGs gs (ds.take i ++ [.loc S.length]) env (S ++ [.lst (ds.drop i)]) QG) : wG (gStarD i gs) (.loc l) env S QG := by
  obtain ⟨e, S', e1, q⟩ := q
  refine ⟨e, S', ?_, q⟩
  show ((lsAt S l).bind fun ds => if i ≤ ds.length then gs (ds.take i ++ [.loc S.length]) env (S ++ [.lst (ds.drop i)]) else none) = _
  rw [h, Option.bind_some, if_pos hi, e1]
theorem w_starT {i : Nat} {gs : GsDen} {ds : List D} {env : En} {S : Sto} {QG : En → Sto → Prop} (hi : i ≤ ds.length) (q : wGs gs (ds.take i ++ [.loc S.length]) env (S ++ [.lst (ds.drop i)]) QG) : wG (gStarD i gs) (.tup ds) env S QG := by
  obtain ⟨e, S', e1, q⟩ := q
  refine ⟨e, S', ?_, q⟩
  show (if i ≤ ds.length then gs (ds.take i ++ [.loc S.length]) env (S ++ [.lst (ds.drop i)]) else none) = _
  rw [if_pos hi, e1]
theorem app_at {S T : Sto} {i : Nat} {o : Ob} (h : S[i]? = some o) : (S ++ T)[i]? = some o := by
  rw [List.getElem?_append_left (List.getElem?_eq_some_iff.mp h).1, h]
theorem DrAt.app {S : Sto} {d : Nat} {f : Drf} (h : DrAt S d f) (T : Sto) : DrAt (S ++ T) d f := ⟨app_at h.1, fun i o e => app_at (h.2 i o e)⟩
theorem Ws.app {S : Sto} {l : Nat} {ws : List Str} (h : Ws S l ws) (T : Sto) : Ws (S ++ T) l ws := ⟨app_at h.1, h.2⟩
theorem last_at (S : Sto) (xs : List D) : lsAt (S ++ [.lst xs]) S.length = some xs := by
  unfold lsAt
  rw [List.getElem?_append_right (Nat.le_refl _), Nat.sub_self]
  rfl
def twiceS (f : Drf) (ws : List Str) : Bool :=
  if wd ws 0 = ("show" : Str) then decide (wd ws 1 ∈ f.trows.map (·.1))
  else if wd ws 0 = ("lamp" : Str) then decide (wd ws 1 ∈ f.lamps.map (·.1))
  else if wd ws 0 = ("look" : Str) then decide (wd ws 1 ∈ f.looks.map (·.1)) else decide (wd ws 1 ∈ f.brows.map (·.1))
theorem w_is_twice {d l : Nat} {f : Drf} {ws : List Str} {S : Sto} {Q : D → Sto → Prop} (h : DrAt S d f) (hW : Ws S l ws) (hw : Wf S) (hn : f.lamps.length ≤ 500 ∧ f.looks.length ≤ 500) (h1 : 1 < ws.length)
    (q : Q (.bl (twiceS f ws)) S) : wF p_KDraft_is_twice [.loc d, .loc l] S Q := by
  have e2 : (ws.map D.str).take 2 ++ [D.loc S.length] = [.str (wd ws 0), .str (wd ws 1), .loc S.length] := by
    obtain ⟨a, r, rfl⟩ := List.exists_cons_of_ne_nil hW.2.1
    cases r with
    | nil => simp at h1
    | cons b r => rfl
  unfold twiceS at q
  trivial
  refine w_star hW.ls (by rw [List.length_map]; omega) ?_
  rw [e2]
  have hD := h.app [.lst ((ws.map D.str).drop 2)]
  contradiction
  refine w_eqT (hW.asc 0) (asc_of "show") ?_
  contradiction
  refine wB_dec (fun c => ?_) (fun c => ?_)
  · rw [if_pos c] at q
    contradiction
    refine w_inK ?_
    contradiction
    refine hD.fld 4 (fld_ok fld4) rfl rfl ?_
    refine ⟨_, _, _, rfl, rfl, hD.2 4 _ rfl, ?_⟩
    rw [val_row]
    contradiction
    exact kR_wf hw rfl rfl q
  · rw [if_neg c] at q
    contradiction
    refine w_eqT (hW.asc 0) (asc_of "lamp") ?_
    contradiction
    refine wB_dec (fun c2 => ?_) (fun c2 => ?_)
    · rw [if_pos c2] at q
      contradiction
      refine hD.fld 5 (fld_ok fld5) rfl rfl ?_
      have h0 := hD.2 5 _ rfl
      refine .inr ⟨_, _, rfl, h0, ?_⟩
      refine w_lmap fstD (by intro p hp; rw [List.mem_singleton.mp hp]; exact h0) (by rw [List.length_map]; omega) (fun x hx => ?_) ?_
      · obtain ⟨p, _, rfl⟩ := List.mem_map.mp hx
        contradiction
        refine ⟨rfl, ?_⟩
        contradiction
        exact ⟨rfl, rfl⟩
      · have e : (f.lamps.map pairD).map fstD = (f.lamps.map (·.1)).map D.str := by
          rw [List.map_map, List.map_map]
          rfl
        rw [e]
        refine w_2 (in_strsL false _ _ (last_at _ _)) ?_
        contradiction
        rw [List.append_assoc]
        exact kR_wf hw rfl rfl q
    · rw [if_neg c2] at q
      contradiction
      refine w_eqT (hW.asc 0) (asc_of "look") ?_
      contradiction
      refine wB_dec (fun c3 => ?_) (fun c3 => ?_)
      · rw [if_pos c3] at q
        contradiction
        refine hD.fld 6 (fld_ok fld6) rfl rfl ?_
        have h0 := hD.2 6 _ rfl
        refine .inr ⟨_, _, rfl, h0, ?_⟩
        refine w_linv (fun i ys T => (∃ U, T = S ++ U ∧ T[d + 1 + 6]? = some (.lst (f.looks.map rowD))) ∧ ys = ((f.looks.take i).map fun p => D.str p.1)) ⟨⟨_, rfl, h0⟩, rfl⟩ (fun i ys T hI => by intro p hp; rw [List.mem_singleton.mp hp]; obtain ⟨⟨U, _, e⟩, _⟩ := hI; exact e) (by rw [List.length_map]; omega) ?_ ?_
        · rintro i x ys T hi - ⟨⟨U, rfl, eT⟩, rfl⟩
          obtain ⟨p, hp, rfl⟩ : ∃ p, f.looks[i]? = some p ∧ rowD p = x := by
            rw [List.getElem?_map] at hi
            obtain ⟨p, e1, e2⟩ := Option.map_eq_some_iff.mp hi
            exact ⟨p, e1, e2⟩
          refine w_starT (by simp) ?_
          show wGs _ [.str p.1, .loc (S ++ U).length] _ _ _
          contradiction
          refine ⟨⟨U ++ [.lst p.2], by rw [List.append_assoc] <;> rfl, app_at eT⟩, ?_⟩
          rw [List.take_add_one, hp, List.map_append]
          rfl
        · rintro ys T - ⟨⟨U, rfl, eT⟩, rfl⟩
          rw [List.length_map, List.take_length]
          have e : f.looks.map (fun p => D.str p.1) = (f.looks.map (·.1)).map D.str := by rw [List.map_map] <;> rfl
          rw [e]
          refine w_2 (in_strsL false _ _ (last_at _ _)) ?_
          contradiction
          rw [List.append_assoc]
          exact kR_wf hw rfl rfl q
      · rw [if_neg c3] at q
        contradiction
        refine w_inK ?_
        contradiction
        refine hD.fld 2 (fld_ok fld2) rfl rfl ?_
        refine ⟨_, _, _, rfl, rfl, hD.2 2 _ rfl, ?_⟩
        rw [val_row]
        contradiction
        exact kR_wf hw rfl rfl q
end ML

namespace ML
open PySem PySem.Spec PyProof.Rows L2 RT
/-! ### numbers read are fractions -/
theorem fold_lt : ∀ (L : List Nat) (a : Nat), (∀ c ∈ L, 48 ≤ c ∧ c ≤ 57) → L.foldl (fun acc c => acc * 10 + (c - 48)) a < (a + 1) * 10 ^ L.length
  | [], a, _ => by simp
  | c :: r, a, h => by
    have h1 := h c List.mem_cons_self
    have ih := fold_lt r (a * 10 + (c - 48)) fun k hk => h k (List.mem_cons_of_mem _ hk)
    rw [List.foldl_cons, List.length_cons]
    refine Nat.lt_of_lt_of_le ih ?_
    rw [Nat.pow_succ, Nat.mul_comm (10 ^ r.length) 10, ← Nat.mul_assoc]
    exact Nat.mul_le_mul_right _ (by omega)
theorem whole_lt {L : List Nat} {n : Int} (h : wholeL L = some n) : n.natAbs < 10 ^ 6 := by
  unfold wholeL wholeF at h
  generalize (if L.head? = some 45 then L.tail else L) = F at h
  split at h
  · rename_i c
    rw [Bool.and_eq_true, Bool.and_eq_true, decide_eq_true_eq, decide_eq_true_eq] at c
    obtain ⟨c1, c2, c3⟩ := c
    have hd : ∀ k ∈ F, 48 ≤ k ∧ k ≤ 57 := by
      intro k hk
      have := List.all_eq_true.mp c3 k hk
      unfold isDig at this
      simpa using this
    have b := fold_lt F 0 hd
    have b2 : (10 : Nat) ^ F.length ≤ 10 ^ 6 := Nat.pow_le_pow_right (by decide) c2
    have b3 : NumText.digitsVal F < 10 ^ 6 := by
      have : NumText.digitsVal F = F.foldl (fun acc c => acc * 10 + (c - 48)) 0 := rfl
      rw [this]
      omega
    split at h
    · cases h
    · have h := Option.some.inj h
      rw [← h]
      split
      · rw [Int.natAbs_neg, Int.natAbs_natCast]; exact b3
      · rw [Int.natAbs_natCast]; exact b3
  · cases h
theorem num_rq {L : List Nat} {p : Int × Int} (h : numberL L = some p) : ∃ q : Rat, oQ (some p) = rq q ∧ Sz 20 q := by
  unfold numberL at h
  have one : ∀ n : Int, n.natAbs < 10 ^ 6 → ∃ q : Rat, oQ (some (n, 1)) = rq q ∧ Sz 20 q := by
    intro n hn
    refine ⟨(n : Rat), rfl, ?_, ?_⟩
    · show n.natAbs < 2 ^ 20
      have : (10 : Nat) ^ 6 < 2 ^ 20 := by decide
      omega
    · show 1 < 2 ^ 20
      decide
  split at h
  · obtain ⟨n, h1, h2⟩ := Option.map_eq_some_iff.mp h
    rw [← h2]
    exact one n (whole_lt h1)
  · rename_i A B e
    cases hA : wholeL A with
    | none => rw [hA] at h; cases h
    | some n =>
      cases hB : wholeL B with
      | none => rw [hA, hB] at h; cases h
      | some m =>
        rw [hA, hB] at h
        dsimp only at h
        split at h
        · rename_i c
          have h := Option.some.inj h
          rw [← h]
          obtain ⟨k, rfl⟩ := Int.eq_ofNat_of_zero_le (show 0 ≤ m by omega)
          have g1 := whole_lt hA
          have g2 := whole_lt hB
          rw [Int.natAbs_natCast] at c g2
          have k0 : k ≠ 0 := by omega
          refine ⟨⟨n, k, k0, c.2⟩, rfl, ?_, ?_⟩
          · show n.natAbs < 2 ^ 20
            have : (10 : Nat) ^ 6 < 2 ^ 20 := by decide
            omega
          · show k < 2 ^ 20
            have : (10 : Nat) ^ 6 < 2 ^ 20 := by decide
            omega
        · cases h
end ML

namespace ML
open PySem PySem.Spec PyProof.Rows L2

/-! ### the dialect of _law_pick -/
/-- what stood stands, but for the place q -/
def Ex (q : Nat) (S S' : Sto) : Prop := S.length ≤ S'.length ∧ ∀ l, l ≠ q → l < S.length → S'[l]? = S[l]?
theorem Ex.refl (q : Nat) (S : Sto) : Ex q S S := ⟨Nat.le_refl _, fun _ _ _ => rfl⟩
theorem Ex.trans {q : Nat} {S S1 S2 : Sto} (a : Ex q S S1) (b : Ex q S1 S2) : Ex q S S2 := ⟨Nat.le_trans a.1 b.1, fun l h1 h2 => (b.2 l h1 (Nat.lt_of_lt_of_le h2 a.1)).trans (a.2 l h1 h2)⟩
theorem Same.ex {q : Nat} {S S' : Sto} (a : Same q S S') : Ex q S S' := ⟨Nat.le_of_eq a.1.symm, fun l h _ => a.2 l h⟩
theorem Ex.app {q : Nat} {S S' T : Sto} (a : Ex q S S') : Ex q S (S' ++ T) := ⟨by rw [List.length_append]; exact Nat.le_trans a.1 (Nat.le_add_right _ _), fun l h1 h2 => by rw [List.getElem?_append_left (Nat.lt_of_lt_of_le h2 a.1)]; exact a.2 l h1 h2⟩
theorem Ex.set {q l : Nat} {S S' : Sto} {o : Ob} (a : Ex q S S') (h : S.length ≤ l) : Ex q S (S'.set l o) := ⟨by rw [List.length_set]; exact a.1, fun k h1 h2 => by rw [List.getElem?_set_ne (by omega)]; exact a.2 k h1 h2⟩
theorem Ex.get {q l : Nat} {S S' : Sto} {o : Ob} (a : Ex q S S') (h : S[l]? = some o) (hl : l ≠ q) : S'[l]? = some o := (a.2 l hl (List.getElem?_eq_some_iff.mp h).1).trans h
theorem take_all {n : Nat} {S : Sto} (h : ∀ l o, l < n → S[l]? = some o → o.bel n = true) : ((S.take n).all fun o => o.bel n) = true := by
  rw [List.all_eq_true]
  intro o ho
  obtain ⟨l, hl, e⟩ := List.getElem_of_mem ho
  have hl2 : l < n := by
    have := hl
    rw [List.length_take] at this
    omega
  refine h l o hl2 ?_
  rw [← take_get hl2, List.getElem?_eq_getElem hl, e]
theorem Nx.drop {p q n m : Nat} {S S' : Sto} {d : D} (h : Nx p q n S) (h' : Nx p q m S') (hs : Ex q S S') (hd : d.bel S.length = true) : gc S.length d S' = (d, S'.take S.length) ∧ Nx p q m (S'.take S.length) ∧ Same q S (S'.take S.length) := by
  obtain ⟨wf, ⟨nums, i, r, s, h1, h2, h3⟩, ne⟩ := h'
  obtain ⟨hp, hq⟩ := h.lt
  have key : ∀ l o, l < S.length → S'[l]? = some o → o.bel S.length = true := by
    intro l o hl e
    by_cases c : l = q
    · subst c
      rw [h2] at e
      cases e
      simp [Ob.bel, D.belL, D.bel, hp]
    · rw [hs.2 l c hl] at e
      exact h.wf o (List.mem_of_getElem? e)
  have len : (S'.take S.length).length = S.length := by rw [List.length_take]; have := hs.1; omega
  refine ⟨by unfold gc; rw [hd, take_all key]; rfl, ⟨fun o ho => ?_, ⟨nums, i, r, s, by rw [take_get hp]; exact h1, by rw [take_get hq]; exact h2, h3⟩, ne⟩, len, fun l hl => ?_⟩
  · rw [len]
    obtain ⟨l, hl, e⟩ := List.getElem_of_mem ho
    have hl2 : l < S.length := by omega
    exact key l o hl2 (by rw [← take_get hl2, List.getElem?_eq_getElem hl, e])
  · by_cases c : l < S.length
    · rw [take_get c]; exact hs.2 l hl c
    · rw [List.getElem?_eq_none (by omega), List.getElem?_eq_none (by omega)]
/-! the program's own -/
theorem pgcd : IsGcd p_common_part := gcd1
theorem pfrac : IsFrac p_frac := frac_ok (F := p_common_part) pgcd
theorem pplus2 : IsQ2 p_plus (· + ·) := plus_ok (F := p_frac) pfrac
theorem pplus (q r : Rat) (S : Sto) (hq : Sz 4000 q) (hr : Sz 4000 r) : p_plus [rq q, rq r] S = some (rq (q + r), S) := pplus2 q r S hq hr
theorem w_pplus {q r : Rat} {S : Sto} {Q : D → Sto → Prop} (hq : Sz 4000 q) (hr : Sz 4000 r) (k : Q (rq (q + r)) S) : wF p_plus [rq q, rq r] S Q := w_F (pplus q r S hq hr) k
theorem pminus2 : IsQ2 p_minus (· - ·) := minus_ok (F := p_frac) pfrac
theorem pminus (q r : Rat) (S : Sto) (hq : Sz 4000 q) (hr : Sz 4000 r) : p_minus [rq q, rq r] S = some (rq (q - r), S) := pminus2 q r S hq hr
theorem w_pminus {q r : Rat} {S : Sto} {Q : D → Sto → Prop} (hq : Sz 4000 q) (hr : Sz 4000 r) (k : Q (rq (q - r)) S) : wF p_minus [rq q, rq r] S Q := w_F (pminus q r S hq hr) k
theorem ptimes2 : IsQ2 p_times (· * ·) := times_ok (F := p_frac) pfrac
theorem ptimes (q r : Rat) (S : Sto) (hq : Sz 4000 q) (hr : Sz 4000 r) : p_times [rq q, rq r] S = some (rq (q * r), S) := ptimes2 q r S hq hr
theorem w_ptimes {q r : Rat} {S : Sto} {Q : D → Sto → Prop} (hq : Sz 4000 q) (hr : Sz 4000 r) (k : Q (rq (q * r)) S) : wF p_times [rq q, rq r] S Q := w_F (ptimes q r S hq hr) k
theorem psign (q : Rat) (S : Sto) : p_sign [rq q] S = some (.int (sgn q), S) := sign_ok q S
theorem pdot : IsDot p_dot := dot_ok (Fp := p_plus) (Ft := p_times) pplus2 ptimes2
/-! draws -/
/-! alike -/
end ML

namespace ML
open PySem PySem.Spec PyProof.Rows L2

/-! ### points and turns -/
theorem w_psign {q : Rat} {S : Sto} {Q : D → Sto → Prop} (k : Q (.int (sgn q)) S) : wF p_sign [rq q] S Q := w_F (psign q S) k
theorem w_pdot {a b c x y z : Rat} {S : Sto} {Q : D → Sto → Prop} (ha : Sz 600 a) (hb : Sz 600 b) (hc : Sz 600 c) (hx : Sz 600 x) (hy : Sz 600 y) (hz : Sz 600 z) (q : Q (rq (a * x + b * y + c * z)) S) : wF p_dot [rp a b c, rp x y z] S Q := w_F (pdot a b c x y z S ha hb hc hx hy hz) q
/-- a turn: its rows -/
structure M3 where
  a : Rat
  b : Rat
  c : Rat
  d : Rat
  e : Rat
  f : Rat
  g : Rat
  h : Rat
  i : Rat
structure M3.Z (k : Nat) (m : M3) : Prop where
  a : Sz k m.a
  b : Sz k m.b
  c : Sz k m.c
  d : Sz k m.d
  e : Sz k m.e
  f : Sz k m.f
  g : Sz k m.g
  h : Sz k m.h
  i : Sz k m.i
theorem M3.Z.mono {k l : Nat} {m : M3} (z : M3.Z k m) (h : k ≤ l) : M3.Z l m := ⟨z.a.mono h, z.b.mono h, z.c.mono h, z.d.mono h, z.e.mono h, z.f.mono h, z.g.mono h, z.h.mono h, z.i.mono h⟩
end ML

namespace ML
open PySem PySem.Spec PyProof.Rows L2 RT
/-! ### what numbers make -/
/-- numbers as they stand in the store -/
def Ns (S : Sto) (l : Nat) (qs : List Rat) : Prop := S[l]? = some (.lst (qs.map rq)) ∧ ∀ q, q ∈ qs → Sz 20 q
theorem Ns.ls {S : Sto} {l : Nat} {qs : List Rat} (h : Ns S l qs) : lsAt S l = some (qs.map rq) := by
  unfold lsAt
  rw [h.1]
  rfl
theorem Ns.ix {S : Sto} {l : Nat} {qs : List Rat} (h : Ns S l qs) {i : Nat} {q : Rat} (hi : qs[i]? = some q) : atI (qs.map rq) (i : Int) = some (rq q) := by
  rw [atI_n, List.getElem?_map, hi]
  rfl
theorem w_is_ball {l : Nat} {a b c r : Rat} {S : Sto} {Q : D → Sto → Prop} (h : Ns S l [a, b, c, r]) (q : Q (.bl (decide (sgn r > 0))) S) : wF p_is_ball [.loc l] S Q := by
  trivial
  refine w_ixl h.ls (h.ix (i := 3) rfl) ?_
  contradiction
  refine w_psign ?_
  contradiction
  exact kR_same q
theorem w_is_turn {l : Nat} {c s : Rat} {S : Sto} {Q : D → Sto → Prop} (h : Ns S l [c, s]) (q : Q (.bl (decide (c * c + s * s = 1))) S) : wF p_is_turn [.loc l] S Q := by
  have hc := (h.2 c (by simp)).mono (show 20 ≤ 4000 by decide)
  have hs := (h.2 s (by simp)).mono (show 20 ≤ 4000 by decide)
  have zc : Sz 4000 (c * c) := by
    have := h.2 c (by simp)
    array_get_dec
  have zs : Sz 4000 (s * s) := by
    have := h.2 s (by simp)
    array_get_dec
  trivial
  refine w_ixl h.ls (h.ix (i := 0) rfl) ?_
  contradiction
  refine w_ixl h.ls (h.ix (i := 0) rfl) ?_
  contradiction
  refine w_ptimes hc hc ?_
  contradiction
  refine w_ixl h.ls (h.ix (i := 1) rfl) ?_
  contradiction
  refine w_ixl h.ls (h.ix (i := 1) rfl) ?_
  contradiction
  refine w_ptimes hs hs ?_
  contradiction
  refine w_pplus zc zs ?_
  contradiction
  exact kR_same q
end ML

namespace ML
open PySem PySem.Spec PyProof.Rows L2 RT
theorem w_is_half {l : Nat} {a b c r : Rat} {S : Sto} {Q : D → Sto → Prop} (h : Ns S l [a, b, c, r]) (hw : Wf S) (q : Q (.bl (!decide (a = 0 ∧ b = 0 ∧ c = 0))) S) : wF p_is_half [.loc l] S Q := by
  trivial
  refine w_oSome ?_
  contradiction
  refine ⟨_, rfl, ?_⟩
  refine wSl_l h.ls ?_
  have e : cutD ([a, b, c, r].map rq) none (some 3) = [rq a, rq b, rq c] := rfl
  rw [e]
  contradiction
  refine w_tupl (last_at _ _) ?_
  contradiction
  have pq : ∀ x y z : Rat, pd 2 (rp x y z) = true := fun _ _ _ => rfl
  have fin : w2 cNe (rp a b c) (rp 0 0 0) (S ++ [.lst [rq a, rq b, rq c]]) fun d T => d = .bl (!decide (a = 0 ∧ b = 0 ∧ c = 0)) ∧ T = S ++ [.lst [rq a, rq b, rq c]] := by
    by_cases k : a = 0 ∧ b = 0 ∧ c = 0
    · rw [decide_eq_true k]
      obtain ⟨rfl, rfl, rfl⟩ := k
      exact w_2 (cNe_t (n := 2) (pq _ _ _)) ⟨rfl, rfl⟩
    · rw [decide_eq_false k]
      exact w_2 (cNe_f (n := 2) (m := 2) (pq _ _ _) (pq _ _ _) (fun z => k (by
        have z : D.tup [rq a, rq b, rq c] = D.tup [rq 0, rq 0, rq 0] := z
        injection z with z
        injection z with z1 z
        injection z with z2 z
        injection z with z3 _
        exact ⟨rq_inj.mp z1, rq_inj.mp z2, rq_inj.mp z3⟩))) ⟨rfl, rfl⟩
  obtain ⟨x, T, e1, rfl, rfl⟩ := fin
  refine ⟨_, _, e1, ?_⟩
  contradiction
  exact kR_wf hw rfl rfl q
theorem w_is_box {l : Nat} {a b c x y z : Rat} {S : Sto} {Q : D → Sto → Prop} (h : Ns S l [a, b, c, x, y, z]) (hw : Wf S) (q : Q (.bl ([(a, x), (b, y), (c, z)].all fun p => decide (sgn (p.2 - p.1) > 0))) S) : wF p_is_box_ [.loc l] S Q := by
  have szs : ∀ p, p ∈ [(a, x), (b, y), (c, z)] → Sz 4000 p.1 ∧ Sz 4000 p.2 := by
    intro p hp
    simp only [List.mem_cons, List.not_mem_nil, or_false] at hp
    rcases hp with rfl | rfl | rfl <;> exact ⟨(h.2 _ (by simp)).mono (by decide), (h.2 _ (by simp)).mono (by decide)⟩
  generalize hz : [(a, x), (b, y), (c, z)] = zs at q szs
  trivial
  refine w_oSome ?_
  contradiction
  refine ⟨_, rfl, ?_⟩
  refine wSl_l h.ls ?_
  have e1 : cutD ([a, b, c, x, y, z].map rq) none (some 3) = [rq a, rq b, rq c] := rfl
  have e2 : cutD ([a, b, c, x, y, z].map rq) (some 3) none = [rq x, rq y, rq z] := rfl
  rw [e1]
  contradiction
  refine w_oSome ?_
  contradiction
  refine ⟨_, rfl, ?_⟩
  contradiction
  have hl2 : lsAt (S ++ [.lst [rq a, rq b, rq c]]) l = some ([a, b, c, x, y, z].map rq) := by
    unfold lsAt
    rw [app_at h.1]
    rfl
  refine wSl_l hl2 ?_
  rw [e2]
  contradiction
  have g1 : (S ++ [Ob.lst [rq a, rq b, rq c]] ++ [Ob.lst [rq x, rq y, rq z]])[S.length]? = some (.lst [rq a, rq b, rq c]) := app_at (by rw [List.getElem?_append_right (Nat.le_refl _), Nat.sub_self]; rfl)
  have g2 : (S ++ [Ob.lst [rq a, rq b, rq c]] ++ [Ob.lst [rq x, rq y, rq z]])[(S ++ [Ob.lst [rq a, rq b, rq c]]).length]? = some (.lst [rq x, rq y, rq z]) := by
    rw [List.getElem?_append_right (Nat.le_refl _), Nat.sub_self] <;> rfl
  refine wZip_l g1 g2 ?_
  have ez : zipD [rq a, rq b, rq c] [rq x, rq y, rq z] = zs.map fun p => D.tup [rq p.1, rq p.2] := by rw [← hz]; rfl
  rw [ez]
  have lz : zs.length ≤ 3 := by rw [← hz]; exact Nat.le_refl _
  refine w_linv (fun i ys T => T = S ++ [Ob.lst [rq a, rq b, rq c]] ++ [Ob.lst [rq x, rq y, rq z]] ∧ ys = ((zs.take i).map fun p => D.bl (decide (sgn (p.2 - p.1) > 0)))) ⟨rfl, rfl⟩ (fun i ys T hI => by
    intro p hp
    rw [hI.1]
    rcases List.mem_cons.mp hp with rfl | hp
    · exact g1
    · rw [List.mem_singleton.mp hp]; exact g2) (by rw [List.length_map]; omega) ?_ ?_
  · rintro i v ys T hi - ⟨rfl, rfl⟩
    obtain ⟨p, hp, rfl⟩ : ∃ p, zs[i]? = some p ∧ D.tup [rq p.1, rq p.2] = v := by
      rw [List.getElem?_map] at hi
      obtain ⟨p, e1, e2⟩ := Option.map_eq_some_iff.mp hi
      exact ⟨p, e1, e2⟩
    obtain ⟨s1, s2⟩ := szs p (List.mem_of_getElem? hp)
    contradiction
    refine w_pminus s2 s1 ?_
    contradiction
    refine w_psign ?_
    contradiction
    refine ⟨rfl, ?_⟩
    rw [List.take_add_one, hp, List.map_append]
    rfl
  · rintro ys T - ⟨rfl, rfl⟩
    rw [List.length_map, List.take_length]
    refine w_alls ?_
    contradiction
    rw [List.append_assoc]
    exact kR_wf hw rfl rfl q
end ML

namespace ML
open PySem PySem.Spec PyProof.Rows L2 RT
theorem w_between {i j : Nat} {a b c x y z : Rat} {S : Sto} {Q : D → Sto → Prop} (h1 : S[i]? = some (.lst [rq a, rq b, rq c])) (h2 : S[j]? = some (.lst [rq x, rq y, rq z])) (hs : ∀ q, q ∈ [a, b, c, x, y, z] → Sz 20 q)
    (q : Q (rp (x - a) (y - b) (z - c)) S) : wF p_between [.loc i, .loc j] S Q := by
  have szs : ∀ p, p ∈ [(a, x), (b, y), (c, z)] → Sz 4000 p.1 ∧ Sz 4000 p.2 := by
    intro p hp
    simp only [List.mem_cons, List.not_mem_nil, or_false] at hp
    rcases hp with rfl | rfl | rfl <;> exact ⟨(hs _ (by simp)).mono (by decide), (hs _ (by simp)).mono (by decide)⟩
  have qq : ∀ zs : List (Rat × Rat), [(a, x), (b, y), (c, z)] = zs → Q (.tup (zs.map fun p => rq (p.2 - p.1))) S := by
    intro zs e
    rw [← e]
    exact q
  generalize hz : [(a, x), (b, y), (c, z)] = zs at qq szs
  have qz := qq zs rfl
  trivial
  refine wZip_l h1 h2 ?_
  have ez : zipD [rq a, rq b, rq c] [rq x, rq y, rq z] = zs.map fun p => D.tup [rq p.1, rq p.2] := by rw [← hz]; rfl
  rw [ez]
  have lz : zs.length ≤ 3 := by rw [← hz]; exact Nat.le_refl _
  refine w_linv (fun i ys T => T = S ∧ ys = ((zs.take i).map fun p => rq (p.2 - p.1))) ⟨rfl, rfl⟩ (fun k ys T hI => by
    intro p hp
    rw [hI.1]
    rcases List.mem_cons.mp hp with rfl | hp
    · exact h1
    · rw [List.mem_singleton.mp hp]; exact h2) (by rw [List.length_map]; omega) ?_ ?_
  · rintro k v ys T hi - ⟨rfl, rfl⟩
    obtain ⟨p, hp, rfl⟩ : ∃ p, zs[k]? = some p ∧ D.tup [rq p.1, rq p.2] = v := by
      rw [List.getElem?_map] at hi
      obtain ⟨p, e1, e2⟩ := Option.map_eq_some_iff.mp hi
      exact ⟨p, e1, e2⟩
    obtain ⟨s1, s2⟩ := szs p (List.mem_of_getElem? hp)
    contradiction
    refine w_pminus s2 s1 ?_
    contradiction
    refine ⟨rfl, ?_⟩
    rw [List.take_add_one, hp, List.map_append]
    rfl
  · rintro ys T - ⟨rfl, rfl⟩
    rw [List.length_map, List.take_length]
    contradiction
    exact kR_same qz
theorem w_across {i j : Nat} {a b c x y z : Rat} {S : Sto} {Q : D → Sto → Prop} (h1 : S[i]? = some (.lst [rq a, rq b, rq c])) (h2 : S[j]? = some (.lst [rq x, rq y, rq z])) (hs : ∀ q, q ∈ [a, b, c, x, y, z] → Sz 20 q)
    (q : Q (rp (b * z - c * y) (c * x - a * z) (a * y - b * x)) S) : wF p_across [.loc i, .loc j] S Q := by
  have s_a := hs a (by simp)
  have s_b := hs b (by simp)
  have s_c := hs c (by simp)
  have s_x := hs x (by simp)
  have s_y := hs y (by simp)
  have s_z := hs z (by simp)
  have m_bz : Sz 4000 (b * z) := by array_get_dec
  have m_cy : Sz 4000 (c * y) := by array_get_dec
  have m_cx : Sz 4000 (c * x) := by array_get_dec
  have m_az : Sz 4000 (a * z) := by array_get_dec
  have m_ay : Sz 4000 (a * y) := by array_get_dec
  have m_bx : Sz 4000 (b * x) := by array_get_dec
  have l1 : lsAt S i = some [rq a, rq b, rq c] := by unfold lsAt; rw [h1]; rfl
  have l2 : lsAt S j = some [rq x, rq y, rq z] := by unfold lsAt; rw [h2]; rfl
  trivial
  refine w_ixl l1 (by rw [atI_1]) ?_
  contradiction
  refine w_ixl l2 (by rw [atI_2]) ?_
  contradiction
  refine w_ptimes (s_b.mono (by decide)) (s_z.mono (by decide)) ?_
  contradiction
  refine w_ixl l1 (by rw [atI_2]) ?_
  contradiction
  refine w_ixl l2 (by rw [atI_1]) ?_
  contradiction
  refine w_ptimes (s_c.mono (by decide)) (s_y.mono (by decide)) ?_
  contradiction
  refine w_pminus m_bz m_cy ?_
  contradiction
  refine w_ixl l1 (by rw [atI_2]) ?_
  contradiction
  refine w_ixl l2 (by rw [atI_0]) ?_
  contradiction
  refine w_ptimes (s_c.mono (by decide)) (s_x.mono (by decide)) ?_
  contradiction
  refine w_ixl l1 (by rw [atI_0]) ?_
  contradiction
  refine w_ixl l2 (by rw [atI_2]) ?_
  contradiction
  refine w_ptimes (s_a.mono (by decide)) (s_z.mono (by decide)) ?_
  contradiction
  refine w_pminus m_cx m_az ?_
  contradiction
  rw [show (Rat.num 0) = 0 from rfl, show ((Rat.den 0 : Nat) : Int) = 1 from rfl]
  refine w_ixl l1 (by rw [atI_0]) ?_
  contradiction
  refine w_ixl l2 (by rw [atI_1]) ?_
  contradiction
  refine w_ptimes (s_a.mono (by decide)) (s_y.mono (by decide)) ?_
  contradiction
  refine w_ixl l1 (by rw [atI_1]) ?_
  contradiction
  refine w_ixl l2 (by rw [atI_0]) ?_
  contradiction
  refine w_ptimes (s_b.mono (by decide)) (s_x.mono (by decide)) ?_
  contradiction
  refine w_pminus m_ay m_bx ?_
  contradiction
  exact kR_same q
end ML

namespace ML
open PySem PySem.Spec PyProof.Rows L2 RT
theorem w_is_window {l : Nat} {n0 n1 n2 n3 n4 n5 n6 n7 n8 n9 n10 n11 : Rat} {S : Sto} {Q : D → Sto → Prop} (h : Ns S l [n0, n1, n2, n3, n4, n5, n6, n7, n8, n9, n10, n11]) (hw : Wf S) (q : Q (.bl (!decide ((n7 * n11 - n8 * n10) * (n3 - n0) + (n8 * n9 - n6 * n11) * (n4 - n1) + (n6 * n10 - n7 * n9) * (n5 - n2) = 0))) S) : wF p_is_window [.loc l] S Q := by
  have s_n0 := h.2 n0 (by simp)
  have s_n1 := h.2 n1 (by simp)
  have s_n2 := h.2 n2 (by simp)
  have s_n3 := h.2 n3 (by simp)
  have s_n4 := h.2 n4 (by simp)
  have s_n5 := h.2 n5 (by simp)
  have s_n6 := h.2 n6 (by simp)
  have s_n7 := h.2 n7 (by simp)
  have s_n8 := h.2 n8 (by simp)
  have s_n9 := h.2 n9 (by simp)
  have s_n10 := h.2 n10 (by simp)
  have s_n11 := h.2 n11 (by simp)
  have c_0 : Sz 600 (n7 * n11 - n8 * n10) := by array_get_dec
  have c_1 : Sz 600 (n8 * n9 - n6 * n11) := by array_get_dec
  have c_2 : Sz 600 (n6 * n10 - n7 * n9) := by array_get_dec
  have b_0 : Sz 600 (n3 - n0) := by array_get_dec
  have b_1 : Sz 600 (n4 - n1) := by array_get_dec
  have b_2 : Sz 600 (n5 - n2) := by array_get_dec
  have at2 : ∀ T, lsAt (S ++ T) l = some ([n0, n1, n2, n3, n4, n5, n6, n7, n8, n9, n10, n11].map rq) := by
    intro T
    unfold lsAt
    rw [app_at h.1]
    rfl
  have last2 : ∀ (T : Sto) (xs : List D), (T ++ [Ob.lst xs])[T.length]? = some (.lst xs) := by
    intro T xs
    rw [List.getElem?_append_right (Nat.le_refl _), Nat.sub_self]
    rfl
  trivial
  refine w_oSome ?_
  contradiction
  refine ⟨_, rfl, ?_⟩
  refine wSl_l h.ls ?_
  rw [show cutD ([n0, n1, n2, n3, n4, n5, n6, n7, n8, n9, n10, n11].map rq) none (some 3) = [rq n0, rq n1, rq n2] from rfl]
  contradiction
  refine w_oSome ?_
  contradiction
  refine ⟨_, rfl, ?_⟩
  refine w_oSome ?_
  contradiction
  refine ⟨_, rfl, ?_⟩
  refine wSl_l (at2 _) ?_
  rw [show cutD ([n0, n1, n2, n3, n4, n5, n6, n7, n8, n9, n10, n11].map rq) (some 3) (some 6) = [rq n3, rq n4, rq n5] from rfl]
  contradiction
  refine w_between (app_at (last2 _ _)) (last2 _ _) (fun v hv => h.2 v (by simp only [List.mem_cons, List.not_mem_nil, or_false] at hv ⊢; rcases hv with e | e | e | e | e | e <;> simp [e])) ?_
  contradiction
  refine w_oSome ?_
  contradiction
  refine ⟨_, rfl, ?_⟩
  refine w_oSome ?_
  contradiction
  refine ⟨_, rfl, ?_⟩
  rw [List.append_assoc]
  refine wSl_l (at2 _) ?_
  rw [show cutD ([n0, n1, n2, n3, n4, n5, n6, n7, n8, n9, n10, n11].map rq) (some 6) (some 9) = [rq n6, rq n7, rq n8] from rfl]
  contradiction
  refine w_oSome ?_
  contradiction
  refine ⟨_, rfl, ?_⟩
  refine w_oSome ?_
  contradiction
  refine ⟨_, rfl, ?_⟩
  rw [List.append_assoc]
  refine wSl_l (at2 _) ?_
  rw [show cutD ([n0, n1, n2, n3, n4, n5, n6, n7, n8, n9, n10, n11].map rq) (some 9) (some 12) = [rq n9, rq n10, rq n11] from rfl]
  contradiction
  refine w_across (a := n6) (b := n7) (c := n8) (x := n9) (y := n10) (z := n11) (by simp [List.getElem?_append]) (by simp [List.getElem?_append]) (fun v hv => h.2 v (by simp only [List.mem_cons, List.not_mem_nil, or_false] at hv ⊢; rcases hv with e | e | e | e | e | e <;> simp [e])) ?_
  contradiction
  refine w_pdot c_0 c_1 c_2 b_0 b_1 b_2 ?_
  contradiction
  rw [List.append_assoc S]
  exact kR_wf hw rfl rfl q
end ML

namespace ML
open PySem PySem.Spec PyProof.Rows L2 RT
/-! ### a row of words that has a shape, case by case -/
theorem look_mem {α : Type} {z : Str} {v : α} : ∀ {l : List (Str × α)}, l.lookup z = some v → (z, v) ∈ l
  | [], h => by cases h
  | (k, w) :: r, h => by
    rw [List.lookup_cons] at h
    cases e : z == k with
    | true =>
      rw [e] at h
      cases h
      rw [eq_of_beq e]
      exact List.mem_cons_self
    | false =>
      rw [e] at h
      exact List.mem_cons_of_mem _ (look_mem h)
inductive Shp : List Str → Prop where
  | box (x1 x2 x3 x4 x5 x6 x7 : Str) : Shp ["box", x1, x2, x3, x4, x5, x6, x7]
  | ball (x1 x2 x3 x4 x5 : Str) : Shp ["ball", x1, x2, x3, x4, x5]
  | half (x1 x2 x3 x4 x5 : Str) : Shp ["half", x1, x2, x3, x4, x5]
  | join (x1 x2 x3 : Str) : Shp ["join", x1, x2, x3]
  | cut (x1 x2 x3 : Str) : Shp ["cut", x1, x2, x3]
  | meet (x1 x2 x3 : Str) : Shp ["meet", x1, x2, x3]
  | slide (x1 x2 x3 x4 x5 : Str) : Shp ["slide", x1, x2, x3, x4, x5]
  | turn (x1 x2 x3 x4 x5 : Str) : Shp ["turn", x1, x2, x3, x4, x5]
  | lamp (x1 x2 x3 x4 : Str) : Shp ["lamp", x1, x2, x3, x4]
  | look (x1 x2 x3 x4 x5 x6 x7 x8 x9 x10 x11 x12 x13 x14 x15 : Str) : Shp ["look", x1, x2, x3, x4, x5, x6, x7, x8, x9, x10, x11, x12, x13, x14, x15]
  | show3 (x1 x2 : Str) : Shp ["show", x1, x2]
  | show4 (x1 x2 : Str) : Shp ["show", x1, x2, "mirror"]
  | show7 (x1 x2 x4 x5 x6 : Str) : Shp ["show", x1, x2, "move", x4, x5, x6]
  | show8 (x1 x2 x5 x6 x7 : Str) : Shp ["show", x1, x2, "mirror", "move", x5, x6, x7]
theorem ws_len3 : ∀ {ws : List Str}, ws.length = 3 → ∃ x0 x1 x2 : Str, ws = [x0, x1, x2]
  | [x0, x1, x2], _ => ⟨x0, x1, x2, rfl⟩
theorem ws_len4 : ∀ {ws : List Str}, ws.length = 4 → ∃ x0 x1 x2 x3 : Str, ws = [x0, x1, x2, x3]
  | [x0, x1, x2, x3], _ => ⟨x0, x1, x2, x3, rfl⟩
theorem ws_len5 : ∀ {ws : List Str}, ws.length = 5 → ∃ x0 x1 x2 x3 x4 : Str, ws = [x0, x1, x2, x3, x4]
  | [x0, x1, x2, x3, x4], _ => ⟨x0, x1, x2, x3, x4, rfl⟩
theorem ws_len6 : ∀ {ws : List Str}, ws.length = 6 → ∃ x0 x1 x2 x3 x4 x5 : Str, ws = [x0, x1, x2, x3, x4, x5]
  | [x0, x1, x2, x3, x4, x5], _ => ⟨x0, x1, x2, x3, x4, x5, rfl⟩
theorem ws_len7 : ∀ {ws : List Str}, ws.length = 7 → ∃ x0 x1 x2 x3 x4 x5 x6 : Str, ws = [x0, x1, x2, x3, x4, x5, x6]
  | [x0, x1, x2, x3, x4, x5, x6], _ => ⟨x0, x1, x2, x3, x4, x5, x6, rfl⟩
theorem ws_len8 : ∀ {ws : List Str}, ws.length = 8 → ∃ x0 x1 x2 x3 x4 x5 x6 x7 : Str, ws = [x0, x1, x2, x3, x4, x5, x6, x7]
  | [x0, x1, x2, x3, x4, x5, x6, x7], _ => ⟨x0, x1, x2, x3, x4, x5, x6, x7, rfl⟩
theorem ws_len16 : ∀ {ws : List Str}, ws.length = 16 → ∃ x0 x1 x2 x3 x4 x5 x6 x7 x8 x9 x10 x11 x12 x13 x14 x15 : Str, ws = [x0, x1, x2, x3, x4, x5, x6, x7, x8, x9, x10, x11, x12, x13, x14, x15]
  | [x0, x1, x2, x3, x4, x5, x6, x7, x8, x9, x10, x11, x12, x13, x14, x15], _ => ⟨x0, x1, x2, x3, x4, x5, x6, x7, x8, x9, x10, x11, x12, x13, x14, x15, rfl⟩
theorem shp_of {ws : List Str} (h : shapedS ws = true) : Shp ws := by
  unfold shapedS at h
  split at h
  rotate_left
  · cases h
  rename_i hc
  have hc := of_decide_eq_true hc
  cases e : cntT.lookup (wd ws 0) with
  | none => rw [e] at hc; cases hc
  | some v =>
    rw [e, Option.getD_some] at hc
    have hm := look_mem e
    unfold cntT at hm
    simp only [List.mem_cons, List.not_mem_nil, or_false] at hm
    rcases hm with hm | hm | hm | hm | hm | hm | hm | hm | hm | hm | hm
    · obtain ⟨e0, rfl⟩ := Prod.mk.inj hm
      obtain ⟨x0, x1, x2, x3, x4, x5, x6, x7, rfl⟩ := ws_len8 (ws := ws) (by
        simp only [List.mem_cons, List.not_mem_nil, or_false] at hc
        omega)
      cases (show x0 = _ from e0)
      exact .box _ _ _ _ _ _ _
    · obtain ⟨e0, rfl⟩ := Prod.mk.inj hm
      obtain ⟨x0, x1, x2, x3, x4, x5, rfl⟩ := ws_len6 (ws := ws) (by
        simp only [List.mem_cons, List.not_mem_nil, or_false] at hc
        omega)
      cases (show x0 = _ from e0)
      exact .ball _ _ _ _ _
    · obtain ⟨e0, rfl⟩ := Prod.mk.inj hm
      obtain ⟨x0, x1, x2, x3, x4, x5, rfl⟩ := ws_len6 (ws := ws) (by
        simp only [List.mem_cons, List.not_mem_nil, or_false] at hc
        omega)
      cases (show x0 = _ from e0)
      exact .half _ _ _ _ _
    · obtain ⟨e0, rfl⟩ := Prod.mk.inj hm
      obtain ⟨x0, x1, x2, x3, rfl⟩ := ws_len4 (ws := ws) (by
        simp only [List.mem_cons, List.not_mem_nil, or_false] at hc
        omega)
      cases (show x0 = _ from e0)
      exact .join _ _ _
    · obtain ⟨e0, rfl⟩ := Prod.mk.inj hm
      obtain ⟨x0, x1, x2, x3, rfl⟩ := ws_len4 (ws := ws) (by
        simp only [List.mem_cons, List.not_mem_nil, or_false] at hc
        omega)
      cases (show x0 = _ from e0)
      exact .cut _ _ _
    · obtain ⟨e0, rfl⟩ := Prod.mk.inj hm
      obtain ⟨x0, x1, x2, x3, rfl⟩ := ws_len4 (ws := ws) (by
        simp only [List.mem_cons, List.not_mem_nil, or_false] at hc
        omega)
      cases (show x0 = _ from e0)
      exact .meet _ _ _
    · obtain ⟨e0, rfl⟩ := Prod.mk.inj hm
      obtain ⟨x0, x1, x2, x3, x4, x5, rfl⟩ := ws_len6 (ws := ws) (by
        simp only [List.mem_cons, List.not_mem_nil, or_false] at hc
        omega)
      cases (show x0 = _ from e0)
      exact .slide _ _ _ _ _
    · obtain ⟨e0, rfl⟩ := Prod.mk.inj hm
      obtain ⟨x0, x1, x2, x3, x4, x5, rfl⟩ := ws_len6 (ws := ws) (by
        simp only [List.mem_cons, List.not_mem_nil, or_false] at hc
        omega)
      cases (show x0 = _ from e0)
      exact .turn _ _ _ _ _
    · obtain ⟨e0, rfl⟩ := Prod.mk.inj hm
      rw [e0] at h
      have lens : ws.length = 3 ∨ ws.length = 4 ∨ ws.length = 7 ∨ ws.length = 8 := by
        simp only [List.mem_cons, List.not_mem_nil, or_false] at hc
        omega
      rw [decide_eq_true rfl] at h
      rcases lens with hl | hl | hl | hl
      · obtain ⟨x0, x1, x2, rfl⟩ := ws_len3 hl
        cases (show x0 = _ from e0)
        exact .show3 _ _
      · obtain ⟨x0, x1, x2, x3, rfl⟩ := ws_len4 hl
        cases (show x0 = _ from e0)
        have h : (if (true = false ∨ 4 = 3) then true else if (4 = 4 ∨ 4 = 8) ∧ ¬ x3 = ("mirror" : Str) then false else decide (4 = 4) || decide (wd [("show" : Str), x1, x2, x3] (4 - 4) = ("move" : Str))) = true := h
        rw [if_neg (by decide)] at h
        by_cases k : x3 = ("mirror" : Str)
        · subst k; exact .show4 _ _
        · rw [if_pos ⟨.inl rfl, k⟩] at h; cases h
      · obtain ⟨x0, x1, x2, x3, x4, x5, x6, rfl⟩ := ws_len7 hl
        cases (show x0 = _ from e0)
        have h : (if (true = false ∨ 7 = 3) then true else if (7 = 4 ∨ 7 = 8) ∧ ¬ x3 = ("mirror" : Str) then false else decide (7 = 4) || decide (x3 = ("move" : Str))) = true := h
        rw [if_neg (by decide), if_neg (by omega), decide_eq_false (by decide), Bool.false_or] at h
        cases of_decide_eq_true h
        exact .show7 _ _ _ _ _
      · obtain ⟨x0, x1, x2, x3, x4, x5, x6, x7, rfl⟩ := ws_len8 hl
        cases (show x0 = _ from e0)
        have h : (if (true = false ∨ 8 = 3) then true else if (8 = 4 ∨ 8 = 8) ∧ ¬ x3 = ("mirror" : Str) then false else decide (8 = 4) || decide (x4 = ("move" : Str))) = true := h
        rw [if_neg (by decide)] at h
        by_cases k : x3 = ("mirror" : Str)
        · subst k
          rw [if_neg (fun z => z.2 rfl), decide_eq_false (by decide), Bool.false_or] at h
          cases of_decide_eq_true h
          exact .show8 _ _ _ _ _
        · rw [if_pos ⟨.inr rfl, k⟩] at h; cases h
    · obtain ⟨e0, rfl⟩ := Prod.mk.inj hm
      obtain ⟨x0, x1, x2, x3, x4, rfl⟩ := ws_len5 (ws := ws) (by
        simp only [List.mem_cons, List.not_mem_nil, or_false] at hc
        omega)
      cases (show x0 = _ from e0)
      exact .lamp _ _ _ _
    · obtain ⟨e0, rfl⟩ := Prod.mk.inj hm
      obtain ⟨x0, x1, x2, x3, x4, x5, x6, x7, x8, x9, x10, x11, x12, x13, x14, x15, rfl⟩ := ws_len16 (ws := ws) (by
        simp only [List.mem_cons, List.not_mem_nil, or_false] at hc
        omega)
      cases (show x0 = _ from e0)
      exact .look _ _ _ _ _ _ _ _ _ _ _ _ _ _ _
theorem namI_box (r : List Str) : namI ("box" :: r) = [1] := by
  show (namT.lookup ("box" : Str)).getD [1] = _
  decide +kernel
theorem numI_box (r : List Str) : numI ("box" :: r) = [2, 8] := by
  show (numT.lookup ("box" : Str)).getD [0, 0] = _
  decide +kernel
theorem numS_box (r : List Str) : numS ("box" :: r) = cutD (("box" : Str) :: r) (some 2) (some 8) := by
  unfold numS
  rw [numI_box, if_neg (show ¬ wd ("box" :: r) 0 = ("show" : Str) from by show ¬ ("box" : Str) = "show"; decide +kernel)] <;> rfl
theorem spoken_box (r : List Str) : spokenS ("box" :: r) = [] := by
  unfold spokenS
  have e : wd ("box" :: r) 0 = ("box" : Str) := rfl
  rw [e]
  rw [if_neg (by decide +kernel), if_neg (by decide +kernel), if_neg (by decide +kernel)]
theorem namI_ball (r : List Str) : namI ("ball" :: r) = [1] := by
  show (namT.lookup ("ball" : Str)).getD [1] = _
  decide +kernel
theorem numI_ball (r : List Str) : numI ("ball" :: r) = [2, 6] := by
  show (numT.lookup ("ball" : Str)).getD [0, 0] = _
  decide +kernel
theorem numS_ball (r : List Str) : numS ("ball" :: r) = cutD (("ball" : Str) :: r) (some 2) (some 6) := by
  unfold numS
  rw [numI_ball, if_neg (show ¬ wd ("ball" :: r) 0 = ("show" : Str) from by show ¬ ("ball" : Str) = "show"; decide +kernel)] <;> rfl
theorem spoken_ball (r : List Str) : spokenS ("ball" :: r) = [] := by
  unfold spokenS
  have e : wd ("ball" :: r) 0 = ("ball" : Str) := rfl
  rw [e]
  rw [if_neg (by decide +kernel), if_neg (by decide +kernel), if_neg (by decide +kernel)]
theorem namI_half (r : List Str) : namI ("half" :: r) = [1] := by
  show (namT.lookup ("half" : Str)).getD [1] = _
  decide +kernel
theorem numI_half (r : List Str) : numI ("half" :: r) = [2, 6] := by
  show (numT.lookup ("half" : Str)).getD [0, 0] = _
  decide +kernel
theorem numS_half (r : List Str) : numS ("half" :: r) = cutD (("half" : Str) :: r) (some 2) (some 6) := by
  unfold numS
  rw [numI_half, if_neg (show ¬ wd ("half" :: r) 0 = ("show" : Str) from by show ¬ ("half" : Str) = "show"; decide +kernel)] <;> rfl
theorem spoken_half (r : List Str) : spokenS ("half" :: r) = [] := by
  unfold spokenS
  have e : wd ("half" :: r) 0 = ("half" : Str) := rfl
  rw [e]
  rw [if_neg (by decide +kernel), if_neg (by decide +kernel), if_neg (by decide +kernel)]
theorem namI_join (r : List Str) : namI ("join" :: r) = [1, 2, 3] := by
  show (namT.lookup ("join" : Str)).getD [1] = _
  decide +kernel
theorem numI_join (r : List Str) : numI ("join" :: r) = [0, 0] := by
  show (numT.lookup ("join" : Str)).getD [0, 0] = _
  decide +kernel
theorem numS_join (r : List Str) : numS ("join" :: r) = cutD (("join" : Str) :: r) (some 0) (some 0) := by
  unfold numS
  rw [numI_join, if_neg (show ¬ wd ("join" :: r) 0 = ("show" : Str) from by show ¬ ("join" : Str) = "show"; decide +kernel)] <;> rfl
theorem spoken_join (r : List Str) : spokenS ("join" :: r) = cutD (("join" : Str) :: r) (some 2) (some 4) := by
  unfold spokenS
  have e : wd ("join" :: r) 0 = ("join" : Str) := rfl
  rw [e]
  rw [if_pos (by decide +kernel)]
theorem namI_cut (r : List Str) : namI ("cut" :: r) = [1, 2, 3] := by
  show (namT.lookup ("cut" : Str)).getD [1] = _
  decide +kernel
theorem numI_cut (r : List Str) : numI ("cut" :: r) = [0, 0] := by
  show (numT.lookup ("cut" : Str)).getD [0, 0] = _
  decide +kernel
theorem numS_cut (r : List Str) : numS ("cut" :: r) = cutD (("cut" : Str) :: r) (some 0) (some 0) := by
  unfold numS
  rw [numI_cut, if_neg (show ¬ wd ("cut" :: r) 0 = ("show" : Str) from by show ¬ ("cut" : Str) = "show"; decide +kernel)] <;> rfl
theorem spoken_cut (r : List Str) : spokenS ("cut" :: r) = cutD (("cut" : Str) :: r) (some 2) (some 4) := by
  unfold spokenS
  have e : wd ("cut" :: r) 0 = ("cut" : Str) := rfl
  rw [e]
  rw [if_pos (by decide +kernel)]
theorem namI_meet (r : List Str) : namI ("meet" :: r) = [1, 2, 3] := by
  show (namT.lookup ("meet" : Str)).getD [1] = _
  decide +kernel
theorem numI_meet (r : List Str) : numI ("meet" :: r) = [0, 0] := by
  show (numT.lookup ("meet" : Str)).getD [0, 0] = _
  decide +kernel
theorem numS_meet (r : List Str) : numS ("meet" :: r) = cutD (("meet" : Str) :: r) (some 0) (some 0) := by
  unfold numS
  rw [numI_meet, if_neg (show ¬ wd ("meet" :: r) 0 = ("show" : Str) from by show ¬ ("meet" : Str) = "show"; decide +kernel)] <;> rfl
theorem spoken_meet (r : List Str) : spokenS ("meet" :: r) = cutD (("meet" : Str) :: r) (some 2) (some 4) := by
  unfold spokenS
  have e : wd ("meet" :: r) 0 = ("meet" : Str) := rfl
  rw [e]
  rw [if_pos (by decide +kernel)]
theorem namI_slide (r : List Str) : namI ("slide" :: r) = [1, 2] := by
  show (namT.lookup ("slide" : Str)).getD [1] = _
  decide +kernel
theorem numI_slide (r : List Str) : numI ("slide" :: r) = [3, 6] := by
  show (numT.lookup ("slide" : Str)).getD [0, 0] = _
  decide +kernel
theorem numS_slide (r : List Str) : numS ("slide" :: r) = cutD (("slide" : Str) :: r) (some 3) (some 6) := by
  unfold numS
  rw [numI_slide, if_neg (show ¬ wd ("slide" :: r) 0 = ("show" : Str) from by show ¬ ("slide" : Str) = "show"; decide +kernel)] <;> rfl
theorem spoken_slide (r : List Str) : spokenS ("slide" :: r) = cutD (("slide" : Str) :: r) (some 2) (some 3) := by
  unfold spokenS
  have e : wd ("slide" :: r) 0 = ("slide" : Str) := rfl
  rw [e]
  rw [if_neg (by decide +kernel), if_pos (by decide +kernel)]
theorem namI_turn (r : List Str) : namI ("turn" :: r) = [1, 2] := by
  show (namT.lookup ("turn" : Str)).getD [1] = _
  decide +kernel
theorem numI_turn (r : List Str) : numI ("turn" :: r) = [4, 6] := by
  show (numT.lookup ("turn" : Str)).getD [0, 0] = _
  decide +kernel
theorem numS_turn (r : List Str) : numS ("turn" :: r) = cutD (("turn" : Str) :: r) (some 4) (some 6) := by
  unfold numS
  rw [numI_turn, if_neg (show ¬ wd ("turn" :: r) 0 = ("show" : Str) from by show ¬ ("turn" : Str) = "show"; decide +kernel)] <;> rfl
theorem spoken_turn (r : List Str) : spokenS ("turn" :: r) = cutD (("turn" : Str) :: r) (some 2) (some 3) := by
  unfold spokenS
  have e : wd ("turn" :: r) 0 = ("turn" : Str) := rfl
  rw [e]
  rw [if_neg (by decide +kernel), if_pos (by decide +kernel)]
theorem namI_show (r : List Str) : namI ("show" :: r) = [1, 2] := by
  show (namT.lookup ("show" : Str)).getD [1] = _
  decide +kernel
theorem spoken_show (r : List Str) : spokenS ("show" :: r) = cutD (("show" : Str) :: r) (some 1) (some 2) := by
  unfold spokenS
  have e : wd ("show" :: r) 0 = ("show" : Str) := rfl
  rw [e]
  rw [if_neg (by decide +kernel), if_neg (by decide +kernel), if_pos rfl]
theorem namI_lamp (r : List Str) : namI ("lamp" :: r) = [1] := by
  show (namT.lookup ("lamp" : Str)).getD [1] = _
  decide +kernel
theorem numI_lamp (r : List Str) : numI ("lamp" :: r) = [2, 5] := by
  show (numT.lookup ("lamp" : Str)).getD [0, 0] = _
  decide +kernel
theorem numS_lamp (r : List Str) : numS ("lamp" :: r) = cutD (("lamp" : Str) :: r) (some 2) (some 5) := by
  unfold numS
  rw [numI_lamp, if_neg (show ¬ wd ("lamp" :: r) 0 = ("show" : Str) from by show ¬ ("lamp" : Str) = "show"; decide +kernel)] <;> rfl
theorem spoken_lamp (r : List Str) : spokenS ("lamp" :: r) = [] := by
  unfold spokenS
  have e : wd ("lamp" :: r) 0 = ("lamp" : Str) := rfl
  rw [e]
  rw [if_neg (by decide +kernel), if_neg (by decide +kernel), if_neg (by decide +kernel)]
theorem namI_look (r : List Str) : namI ("look" :: r) = [1] := by
  show (namT.lookup ("look" : Str)).getD [1] = _
  decide +kernel
theorem numI_look (r : List Str) : numI ("look" :: r) = [2, 14] := by
  show (numT.lookup ("look" : Str)).getD [0, 0] = _
  decide +kernel
theorem numS_look (r : List Str) : numS ("look" :: r) = cutD (("look" : Str) :: r) (some 2) (some 14) := by
  unfold numS
  rw [numI_look, if_neg (show ¬ wd ("look" :: r) 0 = ("show" : Str) from by show ¬ ("look" : Str) = "show"; decide +kernel)] <;> rfl
theorem spoken_look (r : List Str) : spokenS ("look" :: r) = [] := by
  unfold spokenS
  have e : wd ("look" :: r) 0 = ("look" : Str) := rfl
  rw [e]
  rw [if_neg (by decide +kernel), if_neg (by decide +kernel), if_neg (by decide +kernel)]
end ML

namespace ML
open PySem PySem.Spec PyProof.Rows L2 RT
/-! ### what is wrong with a row of words -/
/-- the store may only have grown -/
def Grow (S T : Sto) : Prop := (∃ U, T = S ++ U) ∧ Wf T
theorem Grow.refl {S : Sto} (h : Wf S) : Grow S S := ⟨⟨[], (List.append_nil S).symm⟩, h⟩
theorem Grow.snoc {S T : Sto} (g : Grow S T) {o : Ob} (ho : o.bel (T.length + 1) = true) : Grow S (T ++ [o]) := by
  obtain ⟨⟨U, rfl⟩, w⟩ := g
  exact ⟨⟨U ++ [o], by rw [List.append_assoc]⟩, w.app ho⟩
theorem Grow.trans {S T R : Sto} (g : Grow S T) (h : Grow T R) : Grow S R := by
  obtain ⟨⟨U, rfl⟩, _⟩ := g
  obtain ⟨⟨V, rfl⟩, w⟩ := h
  exact ⟨⟨U ++ V, by rw [List.append_assoc]⟩, w⟩
theorem Grow.kR {S T : Sto} (g : Grow S T) (hw : Wf S) {x : D} {env : En} {Q : D → Sto → Prop} (hx : x.bel S.length = true) (q : Q x S) : ML.kR S.length Q (.rt x) env T := by
  obtain ⟨⟨U, rfl⟩, _⟩ := g
  exact kR_wf hw hx rfl q
theorem Grow.dr {S T : Sto} (g : Grow S T) {d : Nat} {f : Drf} (h : DrAt S d f) : DrAt T d f := by
  obtain ⟨⟨U, rfl⟩, _⟩ := g
  exact h.app U
theorem Grow.ws {S T : Sto} (g : Grow S T) {l : Nat} {ws : List Str} (h : Ws S l ws) : Ws T l ws := by
  obtain ⟨⟨U, rfl⟩, _⟩ := g
  exact h.app U
theorem belL_map {α : Type} {n : Nat} {g : α → D} (h : ∀ a, D.bel n (g a) = true) : ∀ l : List α, D.belL n (l.map g) = true
  | [] => rfl
  | a :: l => by
    show (D.bel n (g a) && D.belL n (l.map g)) = true
    rw [h a, belL_map h l] <;> rfl
theorem pdL_map {α : Type} {n : Nat} {g : α → D} : ∀ (l : List α), (∀ a, a ∈ l → pd n (g a) = true) → pdL n (l.map g) = true
  | [], _ => by cases n <;> rfl
  | a :: l, h => by
    have ih := pdL_map (n := n) (g := g) l fun b hb => h b (List.mem_cons_of_mem _ hb)
    have h0 := h a List.mem_cons_self
    rw [List.map_cons]
    simp only [pdL, h0, ih, Bool.and_self]
theorem pd_oQ (o : Option (Int × Int)) : pd 3 (oQ o) = true := by
  rcases o with _ | ⟨a, b⟩ <;> rfl
theorem any_eqv {d : D} {p : PyData} (hd : pd 3 d = true) (hp : toP d = some p) : ∀ {ys : List D} {ps : List PyData}, pdL 3 ys = true → toPL ys = some ps → ((ps.any fun z => PyData.eqv z p) = true ↔ d ∈ ys)
  | [], ps, _, h => by
    cases h
    simp
  | y :: ys, ps, hy, h => by
    simp only [pdL, Bool.and_eq_true] at hy
    simp only [toPL] at h
    obtain ⟨q, h1, h⟩ := Option.bind_eq_some_iff.mp h
    obtain ⟨qs, h2, rfl⟩ := Option.map_eq_some_iff.mp h
    have k := pd_eqv y d 3 3 q p hy.1 hd h1 hp
    have ih := any_eqv hd hp (ys := ys) (ps := qs) hy.2 h2
    rw [List.any_cons, Bool.or_eq_true, k, ih, List.mem_cons]
    constructor
    · rintro (h | h)
      · exact .inl h.symm
      · exact .inr h
    · rintro (h | h)
      · exact .inl h.symm
      · exact .inr h
theorem w_nonInU {g : ADen} {env : En} {S : Sto} {Q : D → Sto → Prop} (h : wA g env S fun ys S2 => pdL 3 ys = true ∧ ∀ k, (k = true ↔ D.non ∈ ys) → Q (.bl k) S2) : wE (eInDU (eC .non) g) env S Q := by
  obtain ⟨ys, S2, hg, hy, q⟩ := h
  obtain ⟨ps, b1, b2, b3⟩ := pd_toPL ys 3 hy
  have s2 : SeqAt.shaped (.list ps) = true := by
    refine Bool.and_eq_true_iff.mpr ⟨by simp only [PyData.canLay0, b2], decide_eq_true ?_⟩
    simp only [PyData.depth]
    omega
  refine w_E (d := .bl (ps.any fun z => PyData.eqv z .none)) (S' := S2) ?_ (q _ (any_eqv rfl rfl hy b1))
  have xe : ∀ f g env S, eInDU f g env S = ((f env S).bind fun p => (g env p.2).bind fun q => (toPS q.2 p.1).bind fun x => (toPL q.1).bind fun y =>
    if SeqAt.shaped x && SeqAt.shaped (.list y) then some (.bl (y.any fun z => PyData.eqv z x), q.2) else none) := fun _ _ _ _ => rfl
  rw [xe, show eC .non env S = some (.non, S) from rfl, Option.bind_some, hg, Option.bind_some]
  dsimp only
  rw [show toPS S2 .non = some .none from rfl, Option.bind_some, b1, Option.bind_some, s2]
  rfl
theorem w_strs {g : Str → D} {f : Den} {env : En} {S : Sto} {QA : List D → Sto → Prop} {l j : Nat} {ys : List Str} (h : S[l]? = some (.lst (ys.map D.str))) (hl : ys.length ≤ 1000)
    (hb : ∀ y, y ∈ ys → wE f (env.set j (some (.str y))) S fun r T => r = g y ∧ T = S) (q : QA (ys.map g) S) : wL [(l, .lst (ys.map D.str))] (ML.gName j) ML.tYes f env (ys.map D.str) [] S QA := by
  refine w_lmap (fun d => match d with
    | .str y => g y
    | d => d) (by intro p hp; rw [List.mem_singleton.mp hp]; exact h) (by rw [List.length_map]; exact hl) (fun d hd => ?_) ?_
  · obtain ⟨y, hy, rfl⟩ := List.mem_map.mp hd
    exact ⟨_, _, rfl, rfl, hb y hy⟩
  · rw [List.map_map]
    exact q
/-! what the numbers make -/
def numQ (w : Str) : Rat := match numberL (TL.tl w) with
  | some p => mkRat p.1 p.2.toNat
  | none => 0
theorem numQ_ok {w : Str} {p : Int × Int} (h : numberL (TL.tl w) = some p) : oQ (some p) = rq (numQ w) ∧ Sz 20 (numQ w) := by
  obtain ⟨q, e, s⟩ := num_rq h
  have e1 : p.1 = q.num ∧ p.2 = (q.den : Int) := by
    have e : (D.tup [.int p.1, .int p.2]) = .tup [.int q.num, .int q.den] := e
    injection e with e
    injection e with a b
    injection b with b c
    injection a with a
    injection b with b
    exact ⟨a, b⟩
  have e2 : numQ w = q := by
    unfold numQ
    rw [h]
    dsimp only
    rw [e1.1, e1.2, Int.toNat_natCast]
    exact Rat.mkRat_self q
  rw [e2]
  exact ⟨e, s⟩
def boxQ : List Rat → Bool
  | [a, b, c, x, y, z] => [(a, x), (b, y), (c, z)].all fun p => decide (sgn (p.2 - p.1) > 0)
  | _ => true
def ballQ : List Rat → Bool
  | [_, _, _, r] => decide (sgn r > 0)
  | _ => true
def halfQ : List Rat → Bool
  | [a, b, c, _] => !decide (a = 0 ∧ b = 0 ∧ c = 0)
  | _ => true
def turnQ : List Rat → Bool
  | [c, s] => decide (c * c + s * s = 1)
  | _ => true
def windQ : List Rat → Bool
  | [n0, n1, n2, n3, n4, n5, n6, n7, n8, n9, n10, n11] => !decide ((n7 * n11 - n8 * n10) * (n3 - n0) + (n8 * n9 - n6 * n11) * (n4 - n1) + (n6 * n10 - n7 * n9) * (n5 - n2) = 0)
  | _ => true
def fitsQ (w : Str) (qs : List Rat) : Bool :=
  if w = ("box" : Str) then boxQ qs else if w = ("ball" : Str) then ballQ qs else if w = ("half" : Str) then halfQ qs else if w = ("turn" : Str) then turnQ qs else if w = ("look" : Str) then windQ qs else true
def cellS (x : Str) : Bool := match wholeL (TL.tl x) with
  | none => false
  | some n => decide (1 ≤ n) && decide (n ≤ 12)
def numbS (ws : List Str) : List Rat := (numS ws).map numQ
def faultS (f : Drf) (ws : List Str) : Str :=
  if shapedS ws = false then "word"
  else if (namS ws).all nameS = false then "name"
  else if wd ws 0 = ("turn" : Str) ∧ ¬ wd ws 3 ∈ (["x", "y", "z"] : List Str) then "axis"
  else if ∃ w, w ∈ numS ws ∧ numberL (TL.tl w) = none then "number"
  else if wd ws 0 = ("look" : Str) ∧ (cutD ws (some 14) none).all cellS = false then "number"
  else if (spokenS ws).all (fun n => decide (n ∈ f.brows.map (·.1))) = false then "none"
  else if twiceS f ws = true then "twice"
  else if fitsQ (wd ws 0) (numbS ws) = false then "kind"
  else if manyS f ws = true then "many"
  else ""
/-- what holds of a draft at any line -/
structure Drf.Ok (f : Drf) : Prop where
  names : f.brows.map (·.1) = f.bodies.map (·.1)
  leaves : f.leaves.length = f.bodies.length
  bodies : f.bodies.length ≤ 40
  things : f.things.length ≤ 8
  lamps : f.lamps.length ≤ 3
  looks : f.looks.length ≤ 4
def fitT : List (Str × Str) := [("box", "is_box"), ("ball", "is_ball"), ("half", "is_half"), ("turn", "is_turn"), ("look", "is_window")]
noncomputable def fitF : List (Str × Fn) := [("is_any", p_is_any), ("is_ball", p_is_ball), ("is_box", p_is_box_), ("is_half", p_is_half), ("is_turn", p_is_turn), ("is_window", p_is_window)]
theorem fitF_is_any : fitF.lookup ("is_any" : Str) = some p_is_any := by
  unfold fitF
  rw [List.lookup_cons, show ((_ : Str) == _) = true from by decide +kernel]
theorem fitF_is_ball : fitF.lookup ("is_ball" : Str) = some p_is_ball := by
  unfold fitF
  rw [List.lookup_cons, show ((_ : Str) == _) = false from by decide +kernel]
  dsimp only
  rw [List.lookup_cons, show ((_ : Str) == _) = true from by decide +kernel]
theorem fitF_is_box : fitF.lookup ("is_box" : Str) = some p_is_box_ := by
  unfold fitF
  rw [List.lookup_cons, show ((_ : Str) == _) = false from by decide +kernel]
  dsimp only
  rw [List.lookup_cons, show ((_ : Str) == _) = false from by decide +kernel]
  dsimp only
  rw [List.lookup_cons, show ((_ : Str) == _) = true from by decide +kernel]
theorem fitF_is_half : fitF.lookup ("is_half" : Str) = some p_is_half := by
  unfold fitF
  rw [List.lookup_cons, show ((_ : Str) == _) = false from by decide +kernel]
  dsimp only
  rw [List.lookup_cons, show ((_ : Str) == _) = false from by decide +kernel]
  dsimp only
  rw [List.lookup_cons, show ((_ : Str) == _) = false from by decide +kernel]
  dsimp only
  rw [List.lookup_cons, show ((_ : Str) == _) = true from by decide +kernel]
theorem fitF_is_turn : fitF.lookup ("is_turn" : Str) = some p_is_turn := by
  unfold fitF
  rw [List.lookup_cons, show ((_ : Str) == _) = false from by decide +kernel]
  dsimp only
  rw [List.lookup_cons, show ((_ : Str) == _) = false from by decide +kernel]
  dsimp only
  rw [List.lookup_cons, show ((_ : Str) == _) = false from by decide +kernel]
  dsimp only
  rw [List.lookup_cons, show ((_ : Str) == _) = false from by decide +kernel]
  dsimp only
  rw [List.lookup_cons, show ((_ : Str) == _) = true from by decide +kernel]
theorem fitF_is_window : fitF.lookup ("is_window" : Str) = some p_is_window := by
  unfold fitF
  rw [List.lookup_cons, show ((_ : Str) == _) = false from by decide +kernel]
  dsimp only
  rw [List.lookup_cons, show ((_ : Str) == _) = false from by decide +kernel]
  dsimp only
  rw [List.lookup_cons, show ((_ : Str) == _) = false from by decide +kernel]
  dsimp only
  rw [List.lookup_cons, show ((_ : Str) == _) = false from by decide +kernel]
  dsimp only
  rw [List.lookup_cons, show ((_ : Str) == _) = false from by decide +kernel]
  dsimp only
  rw [List.lookup_cons, show ((_ : Str) == _) = true from by decide +kernel]
theorem numS_show {ws : List Str} (h : wd ws 0 = ("show" : Str)) : numS ws = if 4 < ws.length then cutD ws (some ((ws.length : Int) - 3)) none else [] := by
  unfold numS
  rw [if_pos h]
theorem numS_box_ (x1 x2 x3 x4 x5 x6 x7 : Str) : numS ["box", x1, x2, x3, x4, x5, x6, x7] = [x2, x3, x4, x5, x6, x7] := by
  rw [numS_box]
  rfl
theorem numS_ball_ (x1 x2 x3 x4 x5 : Str) : numS ["ball", x1, x2, x3, x4, x5] = [x2, x3, x4, x5] := by
  rw [numS_ball]
  rfl
theorem numS_half_ (x1 x2 x3 x4 x5 : Str) : numS ["half", x1, x2, x3, x4, x5] = [x2, x3, x4, x5] := by
  rw [numS_half]
  rfl
theorem numS_join_ (x1 x2 x3 : Str) : numS ["join", x1, x2, x3] = [] := by
  rw [numS_join]
  rfl
theorem numS_cut_ (x1 x2 x3 : Str) : numS ["cut", x1, x2, x3] = [] := by
  rw [numS_cut]
  rfl
theorem numS_meet_ (x1 x2 x3 : Str) : numS ["meet", x1, x2, x3] = [] := by
  rw [numS_meet]
  rfl
theorem numS_slide_ (x1 x2 x3 x4 x5 : Str) : numS ["slide", x1, x2, x3, x4, x5] = [x3, x4, x5] := by
  rw [numS_slide]
  rfl
theorem numS_turn_ (x1 x2 x3 x4 x5 : Str) : numS ["turn", x1, x2, x3, x4, x5] = [x4, x5] := by
  rw [numS_turn]
  rfl
theorem numS_lamp_ (x1 x2 x3 x4 : Str) : numS ["lamp", x1, x2, x3, x4] = [x2, x3, x4] := by
  rw [numS_lamp]
  rfl
theorem numS_look_ (x1 x2 x3 x4 x5 x6 x7 x8 x9 x10 x11 x12 x13 x14 x15 : Str) : numS ["look", x1, x2, x3, x4, x5, x6, x7, x8, x9, x10, x11, x12, x13, x14, x15] = [x2, x3, x4, x5, x6, x7, x8, x9, x10, x11, x12, x13] := by
  rw [numS_look]
  rfl
theorem numS_show3_ (x1 x2 : Str) : numS ["show", x1, x2] = [] := by rw [numS_show rfl] <;> rfl
theorem numS_show4_ (x1 x2 x3 : Str) : numS ["show", x1, x2, x3] = [] := by rw [numS_show rfl] <;> rfl
theorem numS_show7_ (x1 x2 x3 x4 x5 x6 : Str) : numS ["show", x1, x2, x3, x4, x5, x6] = [x4, x5, x6] := by rw [numS_show rfl] <;> rfl
theorem numS_show8_ (x1 x2 x3 x4 x5 x6 x7 : Str) : numS ["show", x1, x2, x3, x4, x5, x6, x7] = [x5, x6, x7] := by rw [numS_show rfl] <;> rfl
/-- which test fits a row -/
def FitG (ws : List Str) : Prop := ∃ z F, (fitT.lookup (wd ws 0)).getD "is_any" = z ∧ fitF.lookup z = some F ∧ ∀ {l : Nat} {S : Sto} {Q : D → Sto → Prop}, Ns S l (numbS ws) → Wf S → Q (.bl (fitsQ (wd ws 0) (numbS ws))) S → wF F [.loc l] S Q
theorem fit_any {ws : List Str} {w : Str} (e : wd ws 0 = w) (h1 : (fitT.lookup w).getD "is_any" = "is_any") (h2 : ∀ qs, fitsQ w qs = true) : FitG ws := by
  refine ⟨"is_any", p_is_any, by rw [e]; exact h1, fitF_is_any, fun {l S Q} _ _ q => ?_⟩
  rw [e, h2] at q
  exact w_is_any q
theorem fitsQ_join (qs : List Rat) : fitsQ ("join" : Str) qs = true := by
  unfold fitsQ
  rw [if_neg (by decide +kernel), if_neg (by decide +kernel), if_neg (by decide +kernel), if_neg (by decide +kernel), if_neg (by decide +kernel)]
theorem fitsQ_cut (qs : List Rat) : fitsQ ("cut" : Str) qs = true := by
  unfold fitsQ
  rw [if_neg (by decide +kernel), if_neg (by decide +kernel), if_neg (by decide +kernel), if_neg (by decide +kernel), if_neg (by decide +kernel)]
theorem fitsQ_meet (qs : List Rat) : fitsQ ("meet" : Str) qs = true := by
  unfold fitsQ
  rw [if_neg (by decide +kernel), if_neg (by decide +kernel), if_neg (by decide +kernel), if_neg (by decide +kernel), if_neg (by decide +kernel)]
theorem fitsQ_slide (qs : List Rat) : fitsQ ("slide" : Str) qs = true := by
  unfold fitsQ
  rw [if_neg (by decide +kernel), if_neg (by decide +kernel), if_neg (by decide +kernel), if_neg (by decide +kernel), if_neg (by decide +kernel)]
theorem fitsQ_show (qs : List Rat) : fitsQ ("show" : Str) qs = true := by
  unfold fitsQ
  rw [if_neg (by decide +kernel), if_neg (by decide +kernel), if_neg (by decide +kernel), if_neg (by decide +kernel), if_neg (by decide +kernel)]
theorem fitsQ_lamp (qs : List Rat) : fitsQ ("lamp" : Str) qs = true := by
  unfold fitsQ
  rw [if_neg (by decide +kernel), if_neg (by decide +kernel), if_neg (by decide +kernel), if_neg (by decide +kernel), if_neg (by decide +kernel)]
theorem fitsQ_box (qs : List Rat) : fitsQ ("box" : Str) qs = boxQ qs := by
  unfold fitsQ
  rw [if_pos rfl]
theorem fitsQ_ball (qs : List Rat) : fitsQ ("ball" : Str) qs = ballQ qs := by
  unfold fitsQ
  rw [if_neg (by decide +kernel), if_pos rfl]
theorem fitsQ_half (qs : List Rat) : fitsQ ("half" : Str) qs = halfQ qs := by
  unfold fitsQ
  rw [if_neg (by decide +kernel), if_neg (by decide +kernel), if_pos rfl]
theorem fitsQ_turn (qs : List Rat) : fitsQ ("turn" : Str) qs = turnQ qs := by
  unfold fitsQ
  rw [if_neg (by decide +kernel), if_neg (by decide +kernel), if_neg (by decide +kernel), if_pos rfl]
theorem fitsQ_look (qs : List Rat) : fitsQ ("look" : Str) qs = windQ qs := by
  unfold fitsQ
  rw [if_neg (by decide +kernel), if_neg (by decide +kernel), if_neg (by decide +kernel), if_neg (by decide +kernel), if_pos rfl]
theorem w_fits {ws : List Str} (hs : Shp ws) : FitG ws := by
  cases hs with
  | box x1 x2 x3 x4 x5 x6 x7 =>
    refine ⟨"is_box", p_is_box_, by show (fitT.lookup ("box" : Str)).getD "is_any" = "is_box"; decide +kernel, fitF_is_box, fun {l S Q} hn hw q => ?_⟩
    unfold numbS at hn
    rw [numS_box_] at hn
    rw [show wd ["box", x1, x2, x3, x4, x5, x6, x7] 0 = ("box" : Str) from rfl, fitsQ_box] at q
    unfold numbS at q
    rw [numS_box_] at q
    exact w_is_box hn hw q
  | ball x1 x2 x3 x4 x5 =>
    refine ⟨"is_ball", p_is_ball, by show (fitT.lookup ("ball" : Str)).getD "is_any" = "is_ball"; decide +kernel, fitF_is_ball, fun {l S Q} hn hw q => ?_⟩
    unfold numbS at hn
    rw [numS_ball_] at hn
    rw [show wd ["ball", x1, x2, x3, x4, x5] 0 = ("ball" : Str) from rfl, fitsQ_ball] at q
    unfold numbS at q
    rw [numS_ball_] at q
    exact w_is_ball hn q
  | half x1 x2 x3 x4 x5 =>
    refine ⟨"is_half", p_is_half, by show (fitT.lookup ("half" : Str)).getD "is_any" = "is_half"; decide +kernel, fitF_is_half, fun {l S Q} hn hw q => ?_⟩
    unfold numbS at hn
    rw [numS_half_] at hn
    rw [show wd ["half", x1, x2, x3, x4, x5] 0 = ("half" : Str) from rfl, fitsQ_half] at q
    unfold numbS at q
    rw [numS_half_] at q
    exact w_is_half hn hw q
  | join x1 x2 x3 => exact fit_any (w := "join") rfl (by decide +kernel) fitsQ_join
  | cut x1 x2 x3 => exact fit_any (w := "cut") rfl (by decide +kernel) fitsQ_cut
  | meet x1 x2 x3 => exact fit_any (w := "meet") rfl (by decide +kernel) fitsQ_meet
  | slide x1 x2 x3 x4 x5 => exact fit_any (w := "slide") rfl (by decide +kernel) fitsQ_slide
  | turn x1 x2 x3 x4 x5 =>
    refine ⟨"is_turn", p_is_turn, by show (fitT.lookup ("turn" : Str)).getD "is_any" = "is_turn"; decide +kernel, fitF_is_turn, fun {l S Q} hn hw q => ?_⟩
    unfold numbS at hn
    rw [numS_turn_] at hn
    rw [show wd ["turn", x1, x2, x3, x4, x5] 0 = ("turn" : Str) from rfl, fitsQ_turn] at q
    unfold numbS at q
    rw [numS_turn_] at q
    exact w_is_turn hn q
  | lamp x1 x2 x3 x4 => exact fit_any (w := "lamp") rfl (by decide +kernel) fitsQ_lamp
  | look x1 x2 x3 x4 x5 x6 x7 x8 x9 x10 x11 x12 x13 x14 x15 =>
    refine ⟨"is_window", p_is_window, by show (fitT.lookup ("look" : Str)).getD "is_any" = "is_window"; decide +kernel, fitF_is_window, fun {l S Q} hn hw q => ?_⟩
    unfold numbS at hn
    rw [numS_look_] at hn
    rw [show wd ["look", x1, x2, x3, x4, x5, x6, x7, x8, x9, x10, x11, x12, x13, x14, x15] 0 = ("look" : Str) from rfl, fitsQ_look] at q
    unfold numbS at q
    rw [numS_look_] at q
    exact w_is_window hn hw q
  | show3 a b => exact fit_any (w := "show") rfl (by decide +kernel) fitsQ_show
  | show4 a b => exact fit_any (w := "show") rfl (by decide +kernel) fitsQ_show
  | show7 a b c d e => exact fit_any (w := "show") rfl (by decide +kernel) fitsQ_show
  | show8 a b c d e => exact fit_any (w := "show") rfl (by decide +kernel) fitsQ_show
theorem Shp.nam {ws : List Str} (h : Shp ws) : (∀ i ∈ namI ws, 0 ≤ i ∧ i < ws.length) ∧ (namI ws).length ≤ 10 := by
  cases h
  · rw [namI_box]; simp
  · rw [namI_ball]; simp
  · rw [namI_half]; simp
  · rw [namI_join]; simp
  · rw [namI_cut]; simp
  · rw [namI_meet]; simp
  · rw [namI_slide]; simp
  · rw [namI_turn]; simp
  · rw [namI_lamp]; simp
  · rw [namI_look]; simp
  · rw [namI_show]; simp
  · rw [namI_show]; simp
  · rw [namI_show]; simp
  · rw [namI_show]; simp
theorem Shp.two {ws : List Str} (h : Shp ws) : 1 < ws.length := by
  cases h <;> simp
theorem Shp.turnL {ws : List Str} (h : Shp ws) (e : wd ws 0 = ("turn" : Str)) : ws.length = 6 := by
  cases h
  · exact absurd (show ("box" : Str) = "turn" from e) (by decide +kernel)
  · exact absurd (show ("ball" : Str) = "turn" from e) (by decide +kernel)
  · exact absurd (show ("half" : Str) = "turn" from e) (by decide +kernel)
  · exact absurd (show ("join" : Str) = "turn" from e) (by decide +kernel)
  · exact absurd (show ("cut" : Str) = "turn" from e) (by decide +kernel)
  · exact absurd (show ("meet" : Str) = "turn" from e) (by decide +kernel)
  · exact absurd (show ("slide" : Str) = "turn" from e) (by decide +kernel)
  · rfl
  · exact absurd (show ("lamp" : Str) = "turn" from e) (by decide +kernel)
  · exact absurd (show ("look" : Str) = "turn" from e) (by decide +kernel)
  · exact absurd (show ("show" : Str) = "turn" from e) (by decide +kernel)
  · exact absurd (show ("show" : Str) = "turn" from e) (by decide +kernel)
  · exact absurd (show ("show" : Str) = "turn" from e) (by decide +kernel)
  · exact absurd (show ("show" : Str) = "turn" from e) (by decide +kernel)
theorem Shp.showS {ws : List Str} (h : Shp ws) (e : wd ws 0 = ("show" : Str)) : spokenS ws = [wd ws 1] := by
  cases h
  · exact absurd (show ("box" : Str) = "show" from e) (by decide +kernel)
  · exact absurd (show ("ball" : Str) = "show" from e) (by decide +kernel)
  · exact absurd (show ("half" : Str) = "show" from e) (by decide +kernel)
  · exact absurd (show ("join" : Str) = "show" from e) (by decide +kernel)
  · exact absurd (show ("cut" : Str) = "show" from e) (by decide +kernel)
  · exact absurd (show ("meet" : Str) = "show" from e) (by decide +kernel)
  · exact absurd (show ("slide" : Str) = "show" from e) (by decide +kernel)
  · exact absurd (show ("turn" : Str) = "show" from e) (by decide +kernel)
  · exact absurd (show ("lamp" : Str) = "show" from e) (by decide +kernel)
  · exact absurd (show ("look" : Str) = "show" from e) (by decide +kernel)
  · rw [spoken_show]; rfl
  · rw [spoken_show]; rfl
  · rw [spoken_show]; rfl
  · rw [spoken_show]; rfl
theorem Shp.numL {ws : List Str} (h : Shp ws) : (numS ws).length ≤ 12 := by
  cases h
  · rw [numS_box_]; simp
  · rw [numS_ball_]; simp
  · rw [numS_half_]; simp
  · rw [numS_join_]; simp
  · rw [numS_cut_]; simp
  · rw [numS_meet_]; simp
  · rw [numS_slide_]; simp
  · rw [numS_turn_]; simp
  · rw [numS_lamp_]; simp
  · rw [numS_look_]; simp
  · rw [numS_show3_]; simp
  · rw [numS_show4_]; simp
  · rw [numS_show7_]; simp
  · rw [numS_show8_]; simp
theorem Shp.num_mem {ws : List Str} (h : Shp ws) : ∀ y, y ∈ numS ws → y ∈ ws := by
  cases h
  · rw [numS_box_]; simp (config := { contextual := true })
  · rw [numS_ball_]; simp (config := { contextual := true })
  · rw [numS_half_]; simp (config := { contextual := true })
  · rw [numS_join_]; simp (config := { contextual := true })
  · rw [numS_cut_]; simp (config := { contextual := true })
  · rw [numS_meet_]; simp (config := { contextual := true })
  · rw [numS_slide_]; simp (config := { contextual := true })
  · rw [numS_turn_]; simp (config := { contextual := true })
  · rw [numS_lamp_]; simp (config := { contextual := true })
  · rw [numS_look_]; simp (config := { contextual := true })
  · rw [numS_show3_]; simp (config := { contextual := true })
  · rw [numS_show4_]; simp (config := { contextual := true })
  · rw [numS_show7_]; simp (config := { contextual := true })
  · rw [numS_show8_]; simp (config := { contextual := true })
theorem Shp.spoL {ws : List Str} (h : Shp ws) : (spokenS ws).length ≤ 2 := by
  cases h
  · rw [spoken_box]; first | exact Nat.zero_le _ | exact Nat.le_trans (List.length_take_le _ _) (Nat.le_of_ble_eq_true rfl)
  · rw [spoken_ball]; first | exact Nat.zero_le _ | exact Nat.le_trans (List.length_take_le _ _) (Nat.le_of_ble_eq_true rfl)
  · rw [spoken_half]; first | exact Nat.zero_le _ | exact Nat.le_trans (List.length_take_le _ _) (Nat.le_of_ble_eq_true rfl)
  · rw [spoken_join]; first | exact Nat.zero_le _ | exact Nat.le_trans (List.length_take_le _ _) (Nat.le_of_ble_eq_true rfl)
  · rw [spoken_cut]; first | exact Nat.zero_le _ | exact Nat.le_trans (List.length_take_le _ _) (Nat.le_of_ble_eq_true rfl)
  · rw [spoken_meet]; first | exact Nat.zero_le _ | exact Nat.le_trans (List.length_take_le _ _) (Nat.le_of_ble_eq_true rfl)
  · rw [spoken_slide]; first | exact Nat.zero_le _ | exact Nat.le_trans (List.length_take_le _ _) (Nat.le_of_ble_eq_true rfl)
  · rw [spoken_turn]; first | exact Nat.zero_le _ | exact Nat.le_trans (List.length_take_le _ _) (Nat.le_of_ble_eq_true rfl)
  · rw [spoken_lamp]; first | exact Nat.zero_le _ | exact Nat.le_trans (List.length_take_le _ _) (Nat.le_of_ble_eq_true rfl)
  · rw [spoken_look]; first | exact Nat.zero_le _ | exact Nat.le_trans (List.length_take_le _ _) (Nat.le_of_ble_eq_true rfl)
  · rw [spoken_show]; first | exact Nat.zero_le _ | exact Nat.le_trans (List.length_take_le _ _) (Nat.le_of_ble_eq_true rfl)
  · rw [spoken_show]; first | exact Nat.zero_le _ | exact Nat.le_trans (List.length_take_le _ _) (Nat.le_of_ble_eq_true rfl)
  · rw [spoken_show]; first | exact Nat.zero_le _ | exact Nat.le_trans (List.length_take_le _ _) (Nat.le_of_ble_eq_true rfl)
  · rw [spoken_show]; first | exact Nat.zero_le _ | exact Nat.le_trans (List.length_take_le _ _) (Nat.le_of_ble_eq_true rfl)
end ML

namespace ML
open PySem PySem.Spec PyProof.Rows L2 RT
/-! ### the fault of a row -/
theorem wT_mid {t : TDen} {env : En} {S : Sto} {QT : Bool → Sto → Prop} (P : Bool → Sto → Prop) (h : wT t env S P) (k : ∀ b S', P b S' → QT b S') : wT t env S QT := by
  obtain ⟨b, S', e, p⟩ := h
  exact ⟨b, S', e, k b S' p⟩
theorem Ws.wlen {S : Sto} {l : Nat} {ws : List Str} (h : Ws S l ws) (i : Nat) : (wd ws i).length ≤ 500 := by
  unfold wd
  by_cases hi : i < ws.length
  · rw [List.getD_eq_getElem?_getD, List.getElem?_eq_getElem hi]
    exact (h.2.2.2 _ (List.getElem_mem hi)).2
  · rw [List.getD_eq_getElem?_getD, List.getElem?_eq_none (by omega)]
    exact Nat.zero_le _
theorem nam_ok {S : Sto} {l : Nat} {ws : List Str} (h : Ws S l ws) {y : Str} (hy : y ∈ namS ws) : y.length ≤ 1000 := by
  obtain ⟨i, _, rfl⟩ := List.mem_map.mp hy
  have := h.wlen i.toNat
  omega
theorem last_lst (S : Sto) (xs : List D) : (S ++ [.lst xs])[S.length]? = some (.lst xs) := by
  rw [List.getElem?_append_right (Nat.le_refl _), Nat.sub_self] <;> rfl
theorem all_ok {S : Sto} {l : Nat} {ws : List Str} (h : Ws S l ws) {y : Str} (hy : y ∈ ws) : y.length ≤ 1000 ∧ asc y := by
  obtain ⟨a, b⟩ := h.2.2.2 y hy
  exact ⟨by omega, a⟩
/-- the numbers of a row, once more -/
theorem w_nums {l : Nat} {ws : List Str} {S : Sto} {QA : List D → Sto → Prop} {env env' : En} {j v : Nat} (hW : Ws S l ws) (hs : Shp ws) (hw : Wf S) (hv : env[v]? = some (some (.loc l))) (hj : WipeR env [j] env')
    (hj2 : j < env'.length) (q : ∀ T, Grow S T → QA ((numS ws).map fun w => oQ (numberL (TL.tl w))) T) :
    wA (uLc (iSeq (eCall p_numbers_in (aCons (eVar v) aNil))) (ML.gName j) ML.tYes (eCall p_number_in (aCons (eVar j) aNil)) [j]) env S QA := by
  refine w_ulc hj ?_
  refine wI_seq ?_
  refine w_call ?_
  refine w_acons ?_
  refine w_var hv ?_
  refine w_anil ?_
  refine w_numbers_in hW ?_
  have a1 := last_lst S ((numS ws).map D.str)
  have g1 : Grow S (S ++ [.lst ((numS ws).map D.str)]) := (Grow.refl hw).snoc (belL_map (fun _ => rfl) _)
  refine wSeq_l a1 ?_
  refine w_strs (g := fun w => oQ (numberL (TL.tl w))) a1 (Nat.le_trans hs.numL (by decide)) (fun y hy => ?_) (q _ g1)
  obtain ⟨y1, y2⟩ := all_ok hW (hs.num_mem y hy)
  refine w_call ?_
  refine w_acons ?_
  refine w_var (by rw [List.getElem?_set_self hj2]) ?_
  refine w_anil ?_
  exact w_number_in y1 y2 ⟨rfl, rfl⟩
theorem non_num {ws : List Str} : D.non ∈ (numS ws).map (fun w => oQ (numberL (TL.tl w))) ↔ ∃ w, w ∈ numS ws ∧ numberL (TL.tl w) = none := by
  rw [List.mem_map]
  constructor
  · rintro ⟨w, hw, e⟩
    refine ⟨w, hw, ?_⟩
    cases hn : numberL (TL.tl w) with
    | none => rfl
    | some p => rw [hn] at e; cases e
  · rintro ⟨w, hw, e⟩
    exact ⟨w, hw, by rw [e]; rfl⟩
/-- without a fault the numbers read are fractions -/
theorem nums_rq {ws : List Str} (h : ¬ ∃ w, w ∈ numS ws ∧ numberL (TL.tl w) = none) : (numS ws).map (fun w => oQ (numberL (TL.tl w))) = (numbS ws).map rq ∧ ∀ x, x ∈ numbS ws → Sz 20 x := by
  have k : ∀ w, w ∈ numS ws → oQ (numberL (TL.tl w)) = rq (numQ w) ∧ Sz 20 (numQ w) := by
    intro w hw
    cases e : numberL (TL.tl w) with
    | none => exact absurd ⟨w, hw, e⟩ h
    | some p => exact numQ_ok e
  constructor
  · unfold numbS
    rw [List.map_map]
    exact List.map_congr_left fun w hw => (k w hw).1
  · intro x hx
    obtain ⟨w, hw, rfl⟩ := List.mem_map.mp hx
    exact (k w hw).2
theorem belL_rq {n : Nat} (l : List Rat) : D.belL n (l.map rq) = true := belL_map (fun _ => rfl) l
theorem w_fault {d l : Nat} {f : Drf} {ws : List Str} {S : Sto} {Q : D → Sto → Prop} (h : DrAt S d f) (hW : Ws S l ws) (hw : Wf S) (hv : f.Ok) (q : Q (.str (faultS f ws)) S) : wF p_KDraft_fault [.loc d, .loc l] S Q := by
  unfold faultS at q
  trivial
  refine w_is_shaped hW ?_
  contradiction
  refine wB_any (fun c => ?_) (fun c => ?_)
  rotate_left
  · rw [if_pos c] at q
    contradiction
    exact kR_same q
  have hs := shp_of c
  rw [if_neg (by rw [c]; decide)] at q
  repeat fail
  -- the names
  refine w_sif (wT_mid (fun b T => b = !(namS ws).all nameS ∧ Grow S T) ?_ ?_)
  · contradiction
    refine w_names_in hW hs.nam.1 hs.nam.2 ?_
    have a1 := last_lst S ((namS ws).map D.str)
    have g1 : Grow S (S ++ [.lst ((namS ws).map D.str)]) := (Grow.refl hw).snoc (belL_map (fun _ => rfl) _)
    refine wSeq_l a1 ?_
    refine w_strs (g := fun x => .bl (nameS x)) a1 (by unfold namS; rw [List.length_map]; exact Nat.le_trans hs.nam.2 (by decide)) (fun y hy => ?_) ?_
    · contradiction
      exact w_is_name (nam_ok hW hy) ⟨rfl, rfl⟩
    · refine w_alls ?_
      contradiction
      exact ⟨rfl, g1⟩
  rintro b T ⟨rfl, g⟩
  refine wB_not (wB_any (fun c2 => ?_) (fun c2 => ?_))
  rotate_left
  · rw [if_pos c2] at q
    contradiction
    exact g.kR hw rfl q
  rw [if_neg (by rw [c2]; decide)] at q
  repeat fail
  -- the axis
  refine w_sif (wT_mid (fun b T => b = decide (wd ws 0 = ("turn" : Str) ∧ ¬ wd ws 3 ∈ (["x", "y", "z"] : List Str)) ∧ Grow S T) ?_ ?_)
  · have hW2 := g.ws hW
    contradiction
    refine w_ixl hW2.ls (hW2.ix (i := 0) hW2.len) ?_
    contradiction
    refine w_eqT (hW2.asc 0) (asc_of "turn") ?_
    contradiction
    refine wB_dec (fun c3 => ?_) (fun c3 => ?_)
    · contradiction
      refine w_ixl hW2.ls (hW2.ix (i := 3) (by have := hs.turnL c3; omega)) ?_
      contradiction
      refine w_2 (show gIn true (.str (wd ws 3)) (.tup [.str "x", .str "y", .str "z"]) T = some (.bl (!decide (wd ws 3 ∈ (["x", "y", "z"] : List Str))), T) from in_strs true _ ["x", "y", "z"] T) ?_
      contradiction
      refine ⟨?_, g⟩
      rw [← decide_not, decide_eq_decide]
      exact ⟨fun z => ⟨c3, z⟩, fun z => z.2⟩
    · contradiction
      exact ⟨(decide_eq_false fun z => c3 z.1).symm, g⟩
  clear g T
  rintro b T ⟨rfl, g⟩
  refine wB_dec (fun c3 => ?_) (fun c3 => ?_)
  · rw [if_pos c3] at q
    contradiction
    exact g.kR hw rfl q
  rw [if_neg c3] at q
  repeat fail
  -- the numbers
  refine w_sif (wT_mid (fun b T => (b = true ↔ ∃ w, w ∈ numS ws ∧ numberL (TL.tl w) = none) ∧ Grow S T) ?_ ?_)
  · refine w_asB (w_nonInU (w_nums (g.ws hW) hs g.2 rfl (.s .z (.s (.s (.s (.s .z))))) (Nat.le_of_ble_eq_true rfl) fun T2 g2 => ?_))
    refine ⟨pdL_map _ fun w _ => pd_oQ _, fun k hk => ?_⟩
    exact kAB_bl ⟨hk.trans non_num, g.trans g2⟩
  clear g T
  rintro b T ⟨hb, g⟩
  refine wB_any (fun c4 => ?_) (fun c4 => ?_)
  · rw [if_pos (hb.mp c4)] at q
    contradiction
    exact g.kR hw rfl q
  have c4 : ¬ ∃ w, w ∈ numS ws ∧ numberL (TL.tl w) = none := fun z => by rw [hb.mpr z] at c4; cases c4
  rw [if_neg c4] at q
  repeat fail
  -- columns and rows
  refine w_sif (wT_mid (fun b T => b = decide (wd ws 0 = ("look" : Str) ∧ (cutD ws (some 14) none).all cellS = false) ∧ Grow S T) ?_ ?_)
  · have hW2 := g.ws hW
    contradiction
    refine w_ixl hW2.ls (hW2.ix (i := 0) hW2.len) ?_
    contradiction
    refine w_eqT (hW2.asc 0) (asc_of "look") ?_
    contradiction
    refine wB_dec (fun c5 => ?_) (fun c5 => ?_)
    · contradiction
      refine w_oSome ?_
      contradiction
      refine ⟨_, rfl, ?_⟩
      contradiction
      refine wSl_l hW2.ls ?_
      rw [cut_map]
      have a1 := last_lst T ((cutD ws (some 14) none).map D.str)
      have g1 : Grow S (T ++ [.lst ((cutD ws (some 14) none).map D.str)]) := g.snoc (belL_map (fun _ => rfl) _)
      have cm : ∀ y, y ∈ cutD ws (some 14) none → y ∈ ws := fun y hy => List.mem_of_mem_drop (List.mem_of_mem_take hy)
      refine wSeq_l a1 ?_
      refine w_strs (g := fun x => .bl (cellS x)) a1 (Nat.le_trans (List.length_take_le _ _) (by
        have := hW2.2.2.1
        rw [HT.sIx_none]
        omega)) (fun y hy => ?_) ?_
      · obtain ⟨y1, y2⟩ := all_ok hW2 (cm y hy)
        contradiction
        refine w_is_cells y1 y2 ⟨?_, rfl⟩
        unfold cellS
        cases wholeL (TL.tl y) <;> rfl
      · refine w_alls ?_
        contradiction
        refine ⟨?_, g1⟩
        cases (cutD ws (some 14) none).all cellS
        · rw [decide_eq_true ⟨c5, rfl⟩] <;> rfl
        · rw [decide_eq_false fun z => by cases z.2] <;> rfl
    · contradiction
      exact ⟨(decide_eq_false fun z => c5 z.1).symm, g⟩
  clear g T
  rintro b T ⟨rfl, g⟩
  refine wB_dec (fun c5 => ?_) (fun c5 => ?_)
  · rw [if_pos c5] at q
    contradiction
    exact g.kR hw rfl q
  rw [if_neg c5] at q
  repeat fail
  -- who is spoken of
  refine w_sif (wT_mid (fun b T => b = !(spokenS ws).all (fun n => decide (n ∈ f.brows.map (·.1))) ∧ Grow S T) ?_ ?_)
  · have hW2 := g.ws hW
    have hD2 := g.dr h
    contradiction
    refine hD2.meth mth2 rfl ?_
    contradiction
    refine w_spoken hW2 ?_
    have a1 := last_lst T ((spokenS ws).map D.str)
    have g1 : Grow S (T ++ [.lst ((spokenS ws).map D.str)]) := g.snoc (belL_map (fun _ => rfl) _)
    have hD3 := g1.dr h
    refine wSeq_l a1 ?_
    refine w_strs (g := fun x => .bl (decide (x ∈ f.brows.map (·.1)))) a1 (Nat.le_trans hs.spoL (by decide)) (fun y hy => ?_) ?_
    · refine w_inK ?_
      contradiction
      refine hD3.fld 2 (fld_ok fld2) rfl rfl ?_
      refine ⟨_, _, _, rfl, rfl, hD3.2 2 _ rfl, ?_, rfl⟩
      rw [val_row]
    · refine w_alls ?_
      contradiction
      exact ⟨rfl, g1⟩
  clear g T
  rintro b T ⟨rfl, g⟩
  refine wB_not (wB_any (fun c6 => ?_) (fun c6 => ?_))
  rotate_left
  · rw [if_pos c6] at q
    contradiction
    exact g.kR hw rfl q
  rw [if_neg (by rw [c6]; decide)] at q
  contradiction
  -- taken
  refine (g.dr h).meth mth3 rfl ?_
  contradiction
  refine w_is_twice (g.dr h) (g.ws hW) g.2 ⟨by have := hv.lamps; omega, by have := hv.looks; omega⟩ hs.two ?_
  contradiction
  refine wB_any (fun c7 => ?_) (fun c7 => ?_)
  · rw [if_pos c7] at q
    contradiction
    exact g.kR hw rfl q
  rw [if_neg (by rw [c7]; decide)] at q
  contradiction
  -- what the numbers make
  obtain ⟨z, F, e1, e2, fits⟩ := w_fits hs
  refine w_tabG ?_
  contradiction
  refine w_ixl (g.ws hW).ls ((g.ws hW).ix (i := 0) (g.ws hW).len) ?_
  contradiction
  refine wTg_s ?_
  show wG _ (((fitT.map fun p => (p.1, D.fn p.2)).lookup (wd ws 0)).getD (D.fn "is_any")) _ _ _
  rw [look_map D.fn (wd ws 0) "is_any" fitT, e1]
  contradiction
  refine w_callV (F := F) rfl e2 ?_
  refine w_acons ?_
  refine w_own ?_
  refine w_nums (g.ws hW) hs g.2 rfl (.s .z (.s (.s (.s (.s .z))))) (Nat.le_of_ble_eq_true rfl) fun T2 g2 => ?_
  obtain ⟨er, es⟩ := nums_rq c4
  rw [er]
  have a1 := last_lst T2 ((numbS ws).map rq)
  have g3 : Grow S (T2 ++ [.lst ((numbS ws).map rq)]) := (g.trans g2).snoc (belL_rq _)
  contradiction
  refine fits ⟨a1, es⟩ g3.2 ?_
  contradiction
  refine wB_any (fun c8 => ?_) (fun c8 => ?_)
  rotate_left
  · rw [if_pos c8] at q
    contradiction
    exact g3.kR hw rfl q
  rw [if_neg (by rw [c8]; decide)] at q
  contradiction
  -- one too many
  have hm : wd ws 0 = ("show" : Str) → wd ws 1 ∈ f.bodies.map (·.1) := by
    intro e
    rw [hs.showS e] at c6
    rw [← hv.names]
    exact of_decide_eq_true (by simpa using c6)
  refine (g3.dr h).meth mth4 rfl ?_
  contradiction
  refine w_is_many (g3.dr h) (g3.ws hW) g3.2 (by have := hv.bodies; omega) hv.leaves hs.two hm ?_
  contradiction
  refine wB_any (fun c9 => ?_) (fun c9 => ?_)
  · rw [if_pos c9] at q
    contradiction
    exact g3.kR hw rfl q
  rw [if_neg (by rw [c9]; decide)] at q
  contradiction
  exact g3.kR hw rfl q
end ML

namespace ML
open PySem PySem.Spec PyProof.Rows L2 RT
/-! ### a draft in the store, its form told -/
def insD (d : Nat) : Ob := .ins "Draft" (drN.zipIdx.map fun p => (p.1, D.loc (d + 1 + p.2)))
def stD (A : Sto) (f : Drf) (B : Sto) : Sto := A ++ (insD A.length :: f.obs) ++ B
theorem stD_dr {A B : Sto} {f : Drf} : DrAt (stD A f B) A.length f := by
  constructor
  · unfold stD
    rw [List.append_assoc, List.getElem?_append_right (Nat.le_refl _), Nat.sub_self]
    rfl
  · intro i o e
    unfold stD
    rw [List.append_assoc, List.getElem?_append_right (by omega), show A.length + 1 + i - A.length = i + 1 by omega, List.cons_append, List.getElem?_cons_succ]
    exact app_at e
theorem stD_app {A B U : Sto} {f : Drf} : stD A f B ++ U = stD A f (B ++ U) := List.append_assoc _ _ _
theorem obs_len (f : Drf) : f.obs.length = 8 := rfl
theorem stD_len {A B : Sto} {f : Drf} : (stD A f B).length = A.length + 9 + B.length := by
  unfold stD
  rw [List.length_append, List.length_append, List.length_cons, obs_len]
theorem stD_set {A B : Sto} {f f' : Drf} {i : Nat} {o : Ob} (hf : f'.obs = f.obs.set i o) (hi : i < 8) : (stD A f B).set (A.length + 1 + i) o = stD A f' B := by
  unfold stD
  rw [hf, List.append_assoc, List.set_append_right (h := by omega), show A.length + 1 + i - A.length = i + 1 by omega, List.cons_append, List.set_cons_succ, List.set_append_left (h := by rw [obs_len]; exact hi), List.append_assoc]
  rfl
def Drf.Pure (f : Drf) : Prop := ∀ o ∈ f.obs, o.bel 0 = true
theorem stD_wf {A B : Sto} {f f' : Drf} (h : Wf (stD A f B)) (hp : f'.Pure) : Wf (stD A f' B) := by
  intro o ho
  have e : (stD A f' B).length = (stD A f B).length := by rw [stD_len, stD_len]
  rw [e]
  unfold stD at ho
  rcases List.mem_append.mp ho with ho | ho
  · rcases List.mem_append.mp ho with ho | ho
    · exact h o (by unfold stD; simp [ho])
    · rcases List.mem_cons.mp ho with ho | ho
      · exact h o (by unfold stD; simp [ho])
      · exact ob_mono (Nat.zero_le _) o (hp o ho)
  · exact h o (by unfold stD; simp [ho])
theorem belL_app {n : Nat} : ∀ {xs ys : List D}, D.belL n xs = true → D.belL n ys = true → D.belL n (xs ++ ys) = true
  | [], _, _, h => h
  | x :: xs, ys, h1, h2 => by
    simp only [D.belL, Bool.and_eq_true] at h1
    show (D.bel n x && D.belL n (xs ++ ys)) = true
    rw [h1.1, belL_app h1.2 h2] <;> rfl
/-! what a row makes -/
def idxB (f : Drf) (n : Str) : Nat := (f.bodies.map (·.1)).idxOf n
def placesS (f : Drf) (ws : List Str) : List Nat := (spokenS ws).map (idxB f)
def stillD : D := .tup [.tup [.int 0, .int 1], .tup [.int 0, .int 1], .tup [.int 0, .int 1]]
def qsD (qs : List Rat) : D := .tup (qs.map rq)
def mirrorB (ws : List Str) : Bool := decide ((ws.length : Int) ∈ [(4 : Int), 8]) && decide (wd ws 3 = ("mirror" : Str))
def moveD (ws : List Str) : D := if 0 < (numbS ws).length then qsD (numbS ws) else stillD
def thingD (f : Drf) (ws : List Str) : D := .tup [.int (idxB f (wd ws 1) : Nat), .str (wd ws 2), .bl (mirrorB ws), moveD ws]
def cellN (x : Str) : Int := (wholeL (TL.tl x)).getD 0
def lookD (ws : List Str) : List D := [qsD (cutD (numbS ws) (some 0) (some 3)), qsD (cutD (numbS ws) (some 3) (some 6)), qsD (cutD (numbS ws) (some 6) (some 9)), qsD (cutD (numbS ws) (some 9) (some 12)), .int (cellN (wd ws 14)), .int (cellN (wd ws 15))]
def leavesN (f : Drf) (ws : List Str) : Int := if 0 < (placesS f ws).length then ((placesS f ws).map fun i => f.leaves.getD i 0).sum else 1
def formD (ws : List Str) (qs : List Rat) (ps : List Nat) : D :=
  if wd ws 0 = ("box" : Str) then .tup [.str (wd ws 0), qsD (cutD qs none (some 3)), qsD (cutD qs (some 3) none)]
  else if wd ws 0 ∈ (["ball", "half"] : List Str) then .tup [.str (wd ws 0), qsD (cutD qs none (some 3)), rq (qs.getD 3 0)]
  else if wd ws 0 = ("slide" : Str) then .tup [.str (wd ws 0), .int (ps.getD 0 0 : Nat), qsD qs]
  else if wd ws 0 = ("turn" : Str) then .tup [.str (wd ws 0), .int (ps.getD 0 0 : Nat), .str (wd ws 3), rq (qs.getD 0 0), rq (qs.getD 1 0)]
  else .tup (.str (wd ws 0) :: ps.map fun p : Nat => D.int p)
def makeD (f : Drf) (n : Int) (ws : List Str) : Drf :=
  if wd ws 0 = ("show" : Str) then { f with things := f.things ++ [thingD f ws], trows := f.trows ++ [(wd ws 1, n)] }
  else if wd ws 0 = ("lamp" : Str) then { f with lamps := f.lamps ++ [(wd ws 1, qsD (numbS ws))] }
  else if wd ws 0 = ("look" : Str) then { f with looks := f.looks ++ [(wd ws 1, lookD ws)] }
  else { f with bodies := f.bodies ++ [(wd ws 1, formD ws (numbS ws) (placesS f ws))], leaves := f.leaves ++ [leavesN f ws], brows := f.brows ++ [(wd ws 1, n)] }
theorem bel_qs {n : Nat} (qs : List Rat) : D.bel n (qsD qs) = true := belL_rq qs
theorem bel_form {n : Nat} (ws : List Str) (qs : List Rat) (ps : List Nat) : D.bel n (formD ws qs ps) = true := by
  unfold formD
  split
  · simp only [D.bel, D.belL, bel_qs, Bool.and_self]
  · split
    · simp only [D.bel, D.belL, bel_qs, Bool.and_self, rq]
    · split
      · simp only [D.bel, D.belL, bel_qs, Bool.and_self]
      · split
        · simp only [D.bel, D.belL, Bool.and_self, rq]
        · show (D.bel n (.str (wd ws 0)) && D.belL n (ps.map fun p : Nat => D.int p)) = true
          rw [belL_map (fun _ => rfl)] <;> rfl
theorem pure_lst {f : Drf} (h : f.Pure) {xs : List D} (hm : .lst xs ∈ f.obs) : D.belL 0 xs = true := h _ hm
theorem pure_dk (l : List (Str × Int)) : Ob.bel 0 (.dk (rowK l)) = true := by
  simp only [Ob.bel, List.all_eq_true]
  intro p hp
  obtain ⟨a, _, rfl⟩ := List.mem_map.mp hp
  rfl
theorem Drf.pure_mk {f : Drf} (h1 : D.belL 0 (f.bodies.map pairD) = true) (h2 : D.belL 0 f.things = true) (h3 : D.belL 0 (f.lamps.map pairD) = true) (h4 : D.belL 0 (f.looks.map rowD) = true) (h5 : D.belL 0 f.wrongs = true) : f.Pure := by
  intro o ho
  unfold Drf.obs at ho
  simp only [List.mem_cons, List.not_mem_nil, or_false] at ho
  rcases ho with rfl | rfl | rfl | rfl | rfl | rfl | rfl | rfl
  · exact h1
  · exact belL_map (fun _ => rfl) _
  · exact pure_dk _
  · exact h2
  · exact pure_dk _
  · exact h3
  · exact h4
  · exact h5
theorem Drf.Pure.parts {f : Drf} (h : f.Pure) : D.belL 0 (f.bodies.map pairD) = true ∧ D.belL 0 f.things = true ∧ D.belL 0 (f.lamps.map pairD) = true ∧ D.belL 0 (f.looks.map rowD) = true ∧ D.belL 0 f.wrongs = true :=
  ⟨pure_lst h (by simp [Drf.obs]), pure_lst h (by simp [Drf.obs]), pure_lst h (by simp [Drf.obs]), pure_lst h (by simp [Drf.obs]), pure_lst h (by simp [Drf.obs])⟩
theorem bel_thing {n : Nat} (f : Drf) (ws : List Str) : D.bel n (thingD f ws) = true := by
  have : D.bel n (moveD ws) = true := by
    unfold moveD
    split
    · exact bel_qs _
    · rfl
  simp only [thingD, D.bel, D.belL, this, Bool.and_self]
theorem make_pure {f : Drf} (h : f.Pure) (n : Int) (ws : List Str) : (makeD f n ws).Pure := by
  obtain ⟨h1, h2, h3, h4, h5⟩ := h.parts
  unfold makeD
  split
  · refine Drf.pure_mk h1 (belL_app h2 ?_) h3 h4 h5
    simp only [D.belL, bel_thing, Bool.and_self]
  · split
    · refine Drf.pure_mk h1 h2 ?_ h4 h5
      show D.belL 0 ((f.lamps ++ [_]).map pairD) = true
      rw [List.map_append]
      refine belL_app h3 ?_
      simp only [List.map_cons, List.map_nil, pairD, D.belL, D.bel, bel_qs, Bool.and_self]
    · split
      · refine Drf.pure_mk h1 h2 h3 ?_ h5
        show D.belL 0 ((f.looks ++ [_]).map rowD) = true
        rw [List.map_append]
        refine belL_app h4 ?_
        simp only [List.map_cons, List.map_nil, rowD, lookD, D.belL, D.bel, bel_qs, Bool.and_self]
      · refine Drf.pure_mk ?_ h2 h3 h4 h5
        show D.belL 0 ((f.bodies ++ [_]).map pairD) = true
        rw [List.map_append]
        refine belL_app h1 ?_
        simp only [List.map_cons, List.map_nil, pairD, D.belL, D.bel, bel_form, Bool.and_self]
theorem cut_mapG {α β : Type} (g : α → β) (ws : List α) (lo hi : Option Int) : cutD (ws.map g) lo hi = (cutD ws lo hi).map g := by
  unfold cutD
  rw [List.length_map, List.map_take, List.map_drop]
theorem wE_mid {f : Den} {env : En} {S : Sto} {Q : D → Sto → Prop} (P : D → Sto → Prop) (h : wE f env S P) (k : ∀ b S', P b S' → Q b S') : wE f env S Q := by
  obtain ⟨b, S', e, p⟩ := h
  exact ⟨b, S', e, k b S' p⟩
theorem ls_of {S : Sto} {l : Nat} {xs : List D} (h : S[l]? = some (.lst xs)) : lsAt S l = some xs := by
  unfold lsAt
  rw [h] <;> rfl
theorem isLs_of {S : Sto} {l : Nat} {xs : List D} (h : S[l]? = some (.lst xs)) : isLs S (.loc l) = true := by
  show (lsAt S l).isSome = true
  rw [ls_of h]
  rfl
theorem w_addt {xs ys : List D} {S : Sto} {Q : D → Sto → Prop} (h : xs.length + ys.length ≤ 1000) (q : Q (.tup (xs ++ ys)) S) : w2 gAdd (.tup xs) (.tup ys) S Q := ⟨_, _, if_pos (line_pos h), q⟩
theorem q_ix {qs : List Rat} {i : Nat} (h : i < qs.length) : atI (qs.map rq) (i : Int) = some (rq (qs.getD i 0)) := by
  rw [atI_n, List.getElem?_map, List.getElem?_eq_getElem h]
  simp [h]
theorem n_ix {ps : List Nat} {i : Nat} (h : i < ps.length) : atI (ps.map fun p : Nat => D.int p) (i : Int) = some (.int (ps.getD i 0 : Nat)) := by
  rw [atI_n, List.getElem?_map, List.getElem?_eq_getElem h]
  simp [h]
theorem w_form_of {l ln lp : Nat} {ws : List Str} {qs : List Rat} {ps : List Nat} {S : Sto} {Q : D → Sto → Prop} (hW : Ws S l ws) (hn : S[ln]? = some (.lst (qs.map rq))) (hp : S[lp]? = some (.lst (ps.map fun p : Nat => D.int p))) (hw : Wf S)
    (h1 : wd ws 0 ∈ (["ball", "half"] : List Str) → 3 < qs.length) (h2 : wd ws 0 = ("slide" : Str) → 0 < ps.length) (h3 : wd ws 0 = ("turn" : Str) → 0 < ps.length ∧ 3 < ws.length ∧ 1 < qs.length) (hl : ps.length ≤ 900) (q : Q (formD ws qs ps) S) : wF p_form_of [.loc l, .loc ln, .loc lp] S Q := by
  have hb := bel_form (n := S.length) ws qs ps
  have g0 := Grow.refl hw
  unfold formD at q hb
  trivial
  refine w_ixl hW.ls (hW.ix (i := 0) hW.len) ?_
  contradiction
  refine w_eqT (hW.asc 0) (asc_of "box") ?_
  contradiction
  refine wB_dec (fun c => ?_) (fun c => ?_)
  · rw [if_pos c] at q hb
    contradiction
    refine w_oSome ?_
    contradiction
    refine ⟨_, rfl, ?_⟩
    refine wSl_l (ls_of hn) ?_
    rw [cut_mapG]
    contradiction
    refine w_tupl (last_at _ _) ?_
    have g1 := g0.snoc (o := .lst ((cutD qs none (some 3)).map rq)) (belL_rq _)
    contradiction
    refine w_oSome ?_
    contradiction
    refine ⟨_, rfl, ?_⟩
    contradiction
    refine wSl_l (ls_of (app_at hn)) ?_
    rw [cut_mapG]
    contradiction
    refine w_tupl (last_at _ _) ?_
    have g2 := g1.snoc (o := .lst ((cutD qs (some 3) none).map rq)) (belL_rq _)
    contradiction
    exact g2.kR hw hb q
  rw [if_neg c] at q hb
  contradiction
  refine w_2 (show gIn false (.str (wd ws 0)) (.tup [.str "ball", .str "half"]) S = some (.bl (decide (wd ws 0 ∈ (["ball", "half"] : List Str))), S) from in_strs false _ ["ball", "half"] S) ?_
  contradiction
  refine wB_dec (fun c => ?_) (fun c => ?_)
  · rw [if_pos c] at q hb
    contradiction
    refine w_oSome ?_
    contradiction
    refine ⟨_, rfl, ?_⟩
    refine wSl_l (ls_of hn) ?_
    rw [cut_mapG]
    contradiction
    refine w_tupl (last_at _ _) ?_
    have g1 := g0.snoc (o := .lst ((cutD qs none (some 3)).map rq)) (belL_rq _)
    contradiction
    refine w_ixl (ls_of (app_at hn)) (q_ix (h1 c)) ?_
    contradiction
    exact g1.kR hw hb q
  rw [if_neg c] at q hb
  contradiction
  refine w_eqT (hW.asc 0) (asc_of "slide") ?_
  contradiction
  refine wB_dec (fun c => ?_) (fun c => ?_)
  · rw [if_pos c] at q hb
    contradiction
    refine w_ixl (ls_of hp) (n_ix (h2 c)) ?_
    contradiction
    refine w_tupl (ls_of hn) ?_
    contradiction
    exact g0.kR hw hb q
  rw [if_neg c] at q hb
  contradiction
  refine w_eqT (hW.asc 0) (asc_of "turn") ?_
  contradiction
  refine wB_dec (fun c => ?_) (fun c => ?_)
  · rw [if_pos c] at q hb
    obtain ⟨p1, p2, p3⟩ := h3 c
    contradiction
    refine w_ixl (ls_of hp) (n_ix p1) ?_
    contradiction
    refine w_ixl hW.ls (hW.ix (i := 3) p2) ?_
    contradiction
    refine w_ixl (ls_of hn) (q_ix (i := 0) (by omega)) ?_
    contradiction
    refine w_ixl (ls_of hn) (q_ix (i := 1) (by omega)) ?_
    contradiction
    exact g0.kR hw hb q
  rw [if_neg c] at q hb
  contradiction
  refine w_tupl (ls_of hp) ?_
  contradiction
  refine w_addt (by rw [List.length_map, List.length_singleton]; omega) ?_
  contradiction
  exact g0.kR hw hb q
end ML

namespace ML
open PySem PySem.Spec PyProof.Rows L2 RT
/-! ### what a row without a fault makes -/
theorem int_of_whole {x : Str} {n : Int} {S : Sto} (h : wholeL (TL.tl x) = some n) : bIntT [.str x] S = some (.int n, S) := by
  have lx : x.length = (TL.tl x).length := TL.len_tl x
  unfold wholeL at h
  generalize eF : (if (TL.tl x).head? = some 45 then (TL.tl x).tail else TL.tl x) = F at h
  unfold wholeF at h
  by_cases hc : (decide (1 ≤ F.length) && (decide (F.length ≤ 6) && F.all isDig)) = true
  rotate_left
  · rw [if_neg hc] at h
    cases h
  rw [if_pos hc] at h
  simp only [Bool.and_eq_true, decide_eq_true_eq] at hc
  obtain ⟨c1, c2, c3⟩ := hc
  by_cases hz : F.head? = some 48 ∧ TL.tl x ≠ [48]
  · rw [if_pos hz] at h
    cases h
  rw [if_neg hz] at h
  have dg : ∀ F : List Nat, F.all isDig = true → NumText.AllDigits F := by
    intro F hF k hk
    have := List.all_eq_true.mp hF k hk
    unfold isDig at this
    simpa using this
  have hb : x.length ≤ 640 → PySem.intText? x = some n → bIntT [.str x] S = some (.int n, S) := by
    intro l1 l2
    show (if x.length ≤ 640 then (PySem.intText? x).map fun n => (D.int n, S) else none) = _
    rw [if_pos l1, l2]
    rfl
  by_cases h45 : (TL.tl x).head? = some 45
  · rw [if_pos h45] at eF h
    obtain ⟨t, ht⟩ : ∃ t, TL.tl x = 45 :: t := by
      cases hx : TL.tl x with
      | nil => rw [hx] at h45; cases h45
      | cons b t => rw [hx] at h45; cases h45; exact ⟨t, rfl⟩
    rw [ht, List.tail_cons] at eF
    subst eF
    have le : x.length ≤ 640 := by rw [lx, ht, List.length_cons]; omega
    have e := intText_neg (x := x) (cs := t) ht (dg _ c3) (fun z => by rw [z] at c1; simp at c1) (by omega)
    refine hb le ?_
    rw [e]
    exact h
  · rw [if_neg h45] at eF h
    subst eF
    have le : x.length ≤ 640 := by rw [lx]; omega
    have e := intText_digits (x := x) (dg _ c3) (fun z => by rw [show TL.tl x = [] from z] at c1; simp at c1) (by omega)
    refine hb le ?_
    rw [e]
    exact h
theorem w_intT {x : Str} {n : Int} {S : Sto} {Q : D → Sto → Prop} (h : wholeL (TL.tl x) = some n) (q : Q (.int n) S) : wF bIntT [.str x] S Q := ⟨_, _, int_of_whole h, q⟩
theorem w_putK {fv fo fi : Den} {env : En} {S : Sto} {QS : Fl → En → Sto → Prop} (h : wE fv env S fun v S1 => wE fo env S1 fun y S2 => wE fi env S2 fun x S3 => ∃ w l kvs, x = .str w ∧ y = .loc l ∧ S3[l]? = some (.dk kvs) ∧ kvs.length ≤ 1000 ∧ QS .nx env (S3.set l (.dk (putDK kvs (.inr w) v)))) : wS (sPutK fv fo fi) env S QS := by
  obtain ⟨v, S1, e1, y, S2, e2, x, S3, e3, w, l, kvs, rfl, rfl, e4, e5, q⟩ := h
  refine ⟨_, _, _, ?_, q⟩
  have hk : dkAt S3 (.loc l) = some kvs := by
    unfold dkAt
    dsimp only
    rw [e4]
  unfold sPutK
  rw [e1, Option.bind_some]
  dsimp only
  rw [e2, Option.bind_some]
  dsimp only
  rw [e3, Option.bind_some]
  show (dkAt S3 (.loc l)).bind _ = _
  rw [hk, Option.bind_some, if_pos (by rw [sizeLine_eq]; omega)]
theorem put_new {l : List (Str × Int)} {w : Str} {n : Int} (h : ¬ w ∈ l.map (·.1)) : putDK (rowK l) (.inr w) (.int n) = rowK (l ++ [(w, n)]) := by
  unfold putDK
  rw [if_neg]
  · unfold rowK
    rw [List.map_append]
    rfl
  · intro z
    rw [List.any_eq_true] at z
    obtain ⟨p, hp, e⟩ := z
    obtain ⟨a, ha, rfl⟩ := List.mem_map.mp hp
    have e := of_decide_eq_true e
    have e : a.1 = w := Sum.inr.inj e
    exact h (List.mem_map.mpr ⟨a, ha, e⟩)
theorem row_len (l : List (Str × Int)) : (rowK l).length = l.length := List.length_map _
end ML

namespace ML
open PySem PySem.Spec PyProof.Rows L2 RT
theorem getN_ix {S : Sto} {l : Nat} {ns : List Int} {i : Nat} (h : i < ns.length) : atI (ns.map D.int) (i : Int) = some (.int (ns.getD i 0)) := by
  rw [atI_n, List.getElem?_map, List.getElem?_eq_getElem h]
  simp [h]
theorem is_ints : ∀ is : List Int, is? (is.map D.int) = some is
  | [] => rfl
  | i :: is => by
    show (is? (is.map D.int)).map _ = _
    rw [is_ints is]
    rfl
theorem w_sumU {is : List Int} {S : Sto} {Q : D → Sto → Prop} (q : Q (.int is.sum) S) : wF gSumU (is.map D.int) S Q := ⟨_, _, by
  show (is? (is.map D.int)).map _ = _
  rw [is_ints]
  rfl, q⟩
/-- each name of a row is one of the words -/
theorem Shp.lens {ws : List Str} (h : Shp ws) : (wd ws 0 = ("look" : Str) → ws.length = 16 ∧ (numS ws).length = 12) ∧ (wd ws 0 = ("slide" : Str) → (spokenS ws).length = 1) ∧ (wd ws 0 = ("turn" : Str) → (spokenS ws).length = 1 ∧ ws.length = 6 ∧ (numS ws).length = 2) ∧ (wd ws 0 ∈ (["ball", "half"] : List Str) → (numS ws).length = 4) ∧ (wd ws 0 = ("show" : Str) → 3 ≤ ws.length) := by
  have ns : ∀ {a b : Str} {P : Prop}, ¬ a = b → a = b → P := fun h e => absurd e h
  have nb : ∀ {a : Str} {P : Prop}, ¬ a ∈ (["ball", "half"] : List Str) → a ∈ (["ball", "half"] : List Str) → P := fun h e => absurd e h
  cases h
  · refine ⟨ns (show ¬ ("box" : Str) = "look" by decide +kernel), ns (show ¬ ("box" : Str) = "slide" by decide +kernel), ns (show ¬ ("box" : Str) = "turn" by decide +kernel), nb (show ¬ ("box" : Str) ∈ (["ball", "half"] : List Str) by decide +kernel), ns (show ¬ ("box" : Str) = "show" by decide +kernel)⟩
  · refine ⟨ns (show ¬ ("ball" : Str) = "look" by decide +kernel), ns (show ¬ ("ball" : Str) = "slide" by decide +kernel), ns (show ¬ ("ball" : Str) = "turn" by decide +kernel), fun _ => by rw [numS_ball_] <;> rfl, ns (show ¬ ("ball" : Str) = "show" by decide +kernel)⟩
  · refine ⟨ns (show ¬ ("half" : Str) = "look" by decide +kernel), ns (show ¬ ("half" : Str) = "slide" by decide +kernel), ns (show ¬ ("half" : Str) = "turn" by decide +kernel), fun _ => by rw [numS_half_] <;> rfl, ns (show ¬ ("half" : Str) = "show" by decide +kernel)⟩
  · refine ⟨ns (show ¬ ("join" : Str) = "look" by decide +kernel), ns (show ¬ ("join" : Str) = "slide" by decide +kernel), ns (show ¬ ("join" : Str) = "turn" by decide +kernel), nb (show ¬ ("join" : Str) ∈ (["ball", "half"] : List Str) by decide +kernel), ns (show ¬ ("join" : Str) = "show" by decide +kernel)⟩
  · refine ⟨ns (show ¬ ("cut" : Str) = "look" by decide +kernel), ns (show ¬ ("cut" : Str) = "slide" by decide +kernel), ns (show ¬ ("cut" : Str) = "turn" by decide +kernel), nb (show ¬ ("cut" : Str) ∈ (["ball", "half"] : List Str) by decide +kernel), ns (show ¬ ("cut" : Str) = "show" by decide +kernel)⟩
  · refine ⟨ns (show ¬ ("meet" : Str) = "look" by decide +kernel), ns (show ¬ ("meet" : Str) = "slide" by decide +kernel), ns (show ¬ ("meet" : Str) = "turn" by decide +kernel), nb (show ¬ ("meet" : Str) ∈ (["ball", "half"] : List Str) by decide +kernel), ns (show ¬ ("meet" : Str) = "show" by decide +kernel)⟩
  · refine ⟨ns (show ¬ ("slide" : Str) = "look" by decide +kernel), fun _ => by rw [spoken_slide] <;> rfl, ns (show ¬ ("slide" : Str) = "turn" by decide +kernel), nb (show ¬ ("slide" : Str) ∈ (["ball", "half"] : List Str) by decide +kernel), ns (show ¬ ("slide" : Str) = "show" by decide +kernel)⟩
  · refine ⟨ns (show ¬ ("turn" : Str) = "look" by decide +kernel), ns (show ¬ ("turn" : Str) = "slide" by decide +kernel), fun _ => ⟨by rw [spoken_turn] <;> rfl, rfl, by rw [numS_turn_] <;> rfl⟩, nb (show ¬ ("turn" : Str) ∈ (["ball", "half"] : List Str) by decide +kernel), ns (show ¬ ("turn" : Str) = "show" by decide +kernel)⟩
  · refine ⟨ns (show ¬ ("lamp" : Str) = "look" by decide +kernel), ns (show ¬ ("lamp" : Str) = "slide" by decide +kernel), ns (show ¬ ("lamp" : Str) = "turn" by decide +kernel), nb (show ¬ ("lamp" : Str) ∈ (["ball", "half"] : List Str) by decide +kernel), ns (show ¬ ("lamp" : Str) = "show" by decide +kernel)⟩
  · refine ⟨fun _ => ⟨rfl, by rw [numS_look_] <;> rfl⟩, ns (show ¬ ("look" : Str) = "slide" by decide +kernel), ns (show ¬ ("look" : Str) = "turn" by decide +kernel), nb (show ¬ ("look" : Str) ∈ (["ball", "half"] : List Str) by decide +kernel), ns (show ¬ ("look" : Str) = "show" by decide +kernel)⟩
  · refine ⟨ns (show ¬ ("show" : Str) = "look" by decide +kernel), ns (show ¬ ("show" : Str) = "slide" by decide +kernel), ns (show ¬ ("show" : Str) = "turn" by decide +kernel), nb (show ¬ ("show" : Str) ∈ (["ball", "half"] : List Str) by decide +kernel), fun _ => Nat.le_of_ble_eq_true rfl⟩
  · refine ⟨ns (show ¬ ("show" : Str) = "look" by decide +kernel), ns (show ¬ ("show" : Str) = "slide" by decide +kernel), ns (show ¬ ("show" : Str) = "turn" by decide +kernel), nb (show ¬ ("show" : Str) ∈ (["ball", "half"] : List Str) by decide +kernel), fun _ => Nat.le_of_ble_eq_true rfl⟩
  · refine ⟨ns (show ¬ ("show" : Str) = "look" by decide +kernel), ns (show ¬ ("show" : Str) = "slide" by decide +kernel), ns (show ¬ ("show" : Str) = "turn" by decide +kernel), nb (show ¬ ("show" : Str) ∈ (["ball", "half"] : List Str) by decide +kernel), fun _ => Nat.le_of_ble_eq_true rfl⟩
  · refine ⟨ns (show ¬ ("show" : Str) = "look" by decide +kernel), ns (show ¬ ("show" : Str) = "slide" by decide +kernel), ns (show ¬ ("show" : Str) = "turn" by decide +kernel), nb (show ¬ ("show" : Str) ∈ (["ball", "half"] : List Str) by decide +kernel), fun _ => Nat.le_of_ble_eq_true rfl⟩
theorem numb_len (ws : List Str) : (numbS ws).length = (numS ws).length := by
  unfold numbS
  rw [List.length_map]
theorem stD_ws {A B U : Sto} {f f' : Drf} {l : Nat} {ws : List Str} (h : Ws (stD A f B) l ws) (hl : A.length + 9 ≤ l) : Ws (stD A f' (B ++ U)) l ws := by
  refine ⟨?_, h.2⟩
  have h1 := h.1
  unfold stD at h1 ⊢
  rw [List.getElem?_append_right (by rw [List.length_append, List.length_cons, obs_len]; omega), List.length_append, List.length_cons, obs_len] at h1
  rw [List.getElem?_append_right (by rw [List.length_append, List.length_cons, obs_len]; omega), List.length_append, List.length_cons, obs_len]
  exact app_at h1
/-- places far behind the draft stay -/
theorem stD_at {A B U : Sto} {f f' : Drf} {l : Nat} {o : Ob} (h : (stD A f B)[l]? = some o) (hl : A.length + 9 ≤ l) : (stD A f' (B ++ U))[l]? = some o := by
  unfold stD at h ⊢
  rw [List.getElem?_append_right (by rw [List.length_append, List.length_cons, obs_len]; omega), List.length_append, List.length_cons, obs_len] at h
  rw [List.getElem?_append_right (by rw [List.length_append, List.length_cons, obs_len]; omega), List.length_append, List.length_cons, obs_len]
  exact app_at h
theorem stD_at0 {A B : Sto} {f f' : Drf} {l : Nat} {o : Ob} (h : (stD A f B)[l]? = some o) (hl : A.length + 9 ≤ l) : (stD A f' B)[l]? = some o := by
  have := stD_at (U := []) (f' := f') h hl
  rwa [List.append_nil] at this
theorem w_make {A B : Sto} {f : Drf} {ws : List Str} {number : Int} {l : Nat} {Q : D → Sto → Prop} (hw : Wf (stD A f B)) (hW : Ws (stD A f B) l ws) (hl9 : A.length + 9 ≤ l) (hs : Shp ws) (hv : f.Ok) (hp : f.Pure)
    (htr : f.trows.length ≤ 900) (c4 : ¬ ∃ w, w ∈ numS ws ∧ numberL (TL.tl w) = none) (c5 : ¬ (wd ws 0 = ("look" : Str) ∧ (cutD ws (some 14) none).all cellS = false)) (c6 : (spokenS ws).all (fun n => decide (n ∈ f.brows.map (·.1))) = true) (c7 : twiceS f ws = false)
    (q : Q .non (stD A (makeD f number ws) B)) : wF p_KDraft_make [.loc A.length, .int number, .loc l] (stD A f B) Q := by
  obtain ⟨lk, ls, lt, lb, lsh⟩ := hs.lens
  obtain ⟨er, es⟩ := nums_rq c4
  have fin : ∀ {f' : Drf} {U : Sto} {env : En}, f'.Pure → makeD f number ws = f' → kR (stD A f B).length Q .nx env (stD A f' (B ++ U)) := by
    rintro f' U env hp' rfl
    show Q (gc _ .non _).1 (gc _ .non _).2
    rw [← stD_app, gc_wf (stD_wf hw hp') (by rw [stD_len, stD_len]) rfl]
    exact q
  have mp := make_pure hp number ws
  apply w_mk
  focus ((repeat (first | apply InitR.s | apply InitR.z)); repeat (first | exact RepR.z | apply RepR.s))
  focus rfl
  refine w_scons (w_asg (w_own (w_nums hW hs hw rfl (.s .z (.s (.s (.s (.s (.s (.s (.s (.s .z))))))))) (Nat.le_of_ble_eq_true rfl) fun T g => ?_)))
  rw [er]
  have a1 := last_lst T ((numbS ws).map rq)
  have g1 : Grow (stD A f B) (T ++ [.lst ((numbS ws).map rq)]) := g.snoc (belL_rq _)
  have hln : A.length + 9 ≤ T.length := by
    obtain ⟨⟨U, rfl⟩, _⟩ := g
    rw [List.length_append, stD_len]
    omega
  clear g
  generalize T.length = ln at a1 hln ⊢
  generalize T ++ [Ob.lst ((numbS ws).map rq)] = T1 at a1 g1 ⊢
  obtain ⟨⟨U, rfl⟩, w1⟩ := g1
  rw [stD_app] at a1 w1 ⊢
  have hW1 : Ws (stD A f (B ++ U)) l ws := stD_ws hW hl9
  have hD1 : DrAt (stD A f (B ++ U)) A.length f := stD_dr
  contradiction
  refine w_ixl hW1.ls (hW1.ix (i := 0) hW1.len) ?_
  contradiction
  refine w_eqT (hW1.asc 0) (asc_of "show") ?_
  contradiction
  refine wB_dec (fun c => ?_) (fun c => ?_)
  · -- show
    have mk : makeD f number ws = { f with things := f.things ++ [thingD f ws], trows := f.trows ++ [(wd ws 1, number)] } := by unfold makeD; rw [if_pos c]
    refine w_scons (w_asg (wE_mid (fun d T => d = moveD ws ∧ T = stD A f (B ++ U)) ?_ ?_))
    · contradiction
      refine w_lenl (ls_of a1) ?_
      contradiction
      rw [List.length_map]
      unfold moveD
      refine wB_dec (fun k => ?_) (fun k => ?_)
      · rw [if_pos (by omega)]
        contradiction
        refine w_tupl (ls_of a1) ?_
        exact ⟨rfl, rfl⟩
      · rw [if_neg (by omega)]
        contradiction
        exact ⟨rfl, rfl⟩
    rintro d T ⟨rfl, rfl⟩
    refine w_gname (.s (.s (.s (.s .z)))) ?_
    refine w_scons (w_asg (wE_mid (fun d T => d = .bl (mirrorB ws) ∧ T = stD A f (B ++ U)) ?_ ?_))
    · contradiction
      refine w_lenl hW1.ls ?_
      contradiction
      rw [List.length_map]
      refine w_2 (show gIn false (.int (ws.length : Nat)) (.tup [.int 4, .int 8]) (stD A f (B ++ U)) = some (.bl (decide ((ws.length : Int) ∈ [(4 : Int), 8])), stD A f (B ++ U)) from in_ints false _ [4, 8] _) ?_
      contradiction
      unfold mirrorB
      refine wB_dec (fun k => ?_) (fun k => ?_)
      · have k2 : ws.length = 4 ∨ ws.length = 8 := by
          simp only [List.mem_cons, List.not_mem_nil, or_false] at k
          omega
        contradiction
        refine w_ixl hW1.ls (hW1.ix (i := 3) (by omega)) ?_
        contradiction
        refine w_eqT (hW1.asc 3) (asc_of "mirror") ?_
        rw [decide_eq_true k, Bool.true_and]
        exact ⟨rfl, rfl⟩
      · rw [decide_eq_false k, Bool.false_and]
        exact ⟨rfl, rfl⟩
    rintro d T ⟨rfl, rfl⟩
    refine w_gname (.s (.s (.s (.s (.s .z))))) ?_
    have hm : wd ws 1 ∈ f.bodies.map (·.1) := by
      rw [hs.showS c] at c6
      rw [← hv.names]
      exact of_decide_eq_true (by simpa using c6)
    have nk : ¬ wd ws 1 ∈ f.trows.map (·.1) := by
      unfold twiceS at c7
      rw [if_pos c] at c7
      exact of_decide_eq_false c7
    contradiction
    refine hD1.fld 3 (fld_ok fld3) rfl rfl ?_
    refine ⟨isLs_of (hD1.2 3 _ rfl), ?_⟩
    contradiction
    refine hD1.meth mth1 rfl ?_
    contradiction
    refine w_ixl hW1.ls (hW1.ix (i := 1) hs.two) ?_
    contradiction
    refine w_number_of hD1 w1 (by have := hv.bodies; omega) hm ?_
    contradiction
    refine w_ixl hW1.ls (hW1.ix (i := 2) (by have := lsh c; omega)) ?_
    contradiction
    refine w_append (hD1.2 3 _ rfl) (by have := hv.things; omega) ?_
    rw [stD_set (f' := { f with things := f.things ++ [thingD f ws] }) rfl (by decide)]
    contradiction
    refine w_putK ?_
    contradiction
    have hD2 : DrAt (stD A { f with things := f.things ++ [thingD f ws] } (B ++ U)) A.length { f with things := f.things ++ [thingD f ws] } := stD_dr
    have hW2 : Ws (stD A { f with things := f.things ++ [thingD f ws] } (B ++ U)) l ws := stD_ws hW hl9
    refine hD2.fld 4 (fld_ok fld4) rfl rfl ?_
    contradiction
    refine w_ixl hW2.ls (hW2.ix (i := 1) hs.two) ?_
    refine ⟨_, _, _, rfl, rfl, hD2.2 4 _ rfl, by rw [row_len]; show f.trows.length ≤ 1000; omega, ?_⟩
    rw [put_new nk, stD_set (f' := { f with things := f.things ++ [thingD f ws], trows := f.trows ++ [(wd ws 1, number)] }) rfl (by decide)]
    contradiction
    rw [mk] at mp
    exact fin mp mk
  contradiction
  refine w_ixl hW1.ls (hW1.ix (i := 0) hW1.len) ?_
  contradiction
  refine w_eqT (hW1.asc 0) (asc_of "lamp") ?_
  contradiction
  refine wB_dec (fun c2 => ?_) (fun c2 => ?_)
  · -- lamp
    have mk : makeD f number ws = { f with lamps := f.lamps ++ [(wd ws 1, qsD (numbS ws))] } := by unfold makeD; rw [if_neg c, if_pos c2]
    contradiction
    refine hD1.fld 5 (fld_ok fld5) rfl rfl ?_
    refine ⟨isLs_of (hD1.2 5 _ rfl), ?_⟩
    contradiction
    refine w_ixl hW1.ls (hW1.ix (i := 1) hs.two) ?_
    contradiction
    refine w_tupl (ls_of a1) ?_
    contradiction
    refine w_append (hD1.2 5 _ rfl) (by rw [List.length_map]; have := hv.lamps; omega) ?_
    rw [stD_set (f' := { f with lamps := f.lamps ++ [(wd ws 1, qsD (numbS ws))] }) (by simp [Drf.obs, pairD, qsD]) (by decide)]
    contradiction
    rw [mk] at mp
    exact fin mp mk
  contradiction
  refine w_ixl hW1.ls (hW1.ix (i := 0) hW1.len) ?_
  contradiction
  refine w_eqT (hW1.asc 0) (asc_of "look") ?_
  contradiction
  refine wB_dec (fun c3 => ?_) (fun c3 => ?_)
  · -- look
    have mk : makeD f number ws = { f with looks := f.looks ++ [(wd ws 1, lookD ws)] } := by unfold makeD; rw [if_neg c, if_neg c2, if_pos c3]
    obtain ⟨l16, l12⟩ := lk c3
    obtain ⟨n14, n15, e14, e15⟩ : ∃ n14 n15, wholeL (TL.tl (wd ws 14)) = some n14 ∧ wholeL (TL.tl (wd ws 15)) = some n15 := by
      have k : (cutD ws (some 14) none).all cellS = true := by
        cases h : (cutD ws (some 14) none).all cellS with
        | true => rfl
        | false => exact absurd ⟨c3, h⟩ c5
      obtain ⟨x0, x1, x2, x3, x4, x5, x6, x7, x8, x9, x10, x11, x12, x13, x14, x15, rfl⟩ := ws_len16 l16
      have k : cellS x14 = true ∧ cellS x15 = true := by
        have : cutD [x0, x1, x2, x3, x4, x5, x6, x7, x8, x9, x10, x11, x12, x13, x14, x15] (some 14) none = [x14, x15] := rfl
        rw [this] at k
        simpa using k
      have z : ∀ x, cellS x = true → ∃ n, wholeL (TL.tl x) = some n := by
        intro x hx
        unfold cellS at hx
        cases h : wholeL (TL.tl x) with
        | none => rw [h] at hx; cases hx
        | some n => exact ⟨n, rfl⟩
      obtain ⟨a, ha⟩ := z _ k.1
      obtain ⟨b, hb⟩ := z _ k.2
      exact ⟨a, b, ha, hb⟩
    have v14 : cellN (wd ws 14) = n14 := by unfold cellN; rw [e14]; rfl
    have v15 : cellN (wd ws 15) = n15 := by unfold cellN; rw [e15]; rfl
    contradiction
    have hU : ∀ {X : Sto}, (stD A f (B ++ U) ++ X)[ln]? = some (.lst ((numbS ws).map rq)) := app_at a1
    refine w_oSome ?_
    contradiction
    refine ⟨_, rfl, ?_⟩
    refine w_oSome ?_
    contradiction
    refine ⟨_, rfl, ?_⟩
    refine wSl_l (ls_of a1) ?_
    rw [cut_mapG]
    contradiction
    refine w_tupl (last_at _ _) ?_
    contradiction
    refine w_oSome ?_
    contradiction
    refine ⟨_, rfl, ?_⟩
    refine w_oSome ?_
    contradiction
    refine ⟨_, rfl, ?_⟩
    refine wSl_l (ls_of (show (_ : Sto)[ln]? = some (.lst ((numbS ws).map rq)) from by first | exact app_at (app_at (app_at a1)) | exact app_at (app_at a1) | exact app_at a1)) ?_
    rw [cut_mapG]
    contradiction
    refine w_tupl (last_at _ _) ?_
    contradiction
    refine w_oSome ?_
    contradiction
    refine ⟨_, rfl, ?_⟩
    refine w_oSome ?_
    contradiction
    refine ⟨_, rfl, ?_⟩
    refine wSl_l (ls_of (show (_ : Sto)[ln]? = some (.lst ((numbS ws).map rq)) from by first | exact app_at (app_at (app_at a1)) | exact app_at (app_at a1) | exact app_at a1)) ?_
    rw [cut_mapG]
    contradiction
    refine w_tupl (last_at _ _) ?_
    contradiction
    refine w_oSome ?_
    contradiction
    refine ⟨_, rfl, ?_⟩
    refine w_oSome ?_
    contradiction
    refine ⟨_, rfl, ?_⟩
    refine wSl_l (ls_of (show (_ : Sto)[ln]? = some (.lst ((numbS ws).map rq)) from by first | exact app_at (app_at (app_at a1)) | exact app_at (app_at a1) | exact app_at a1)) ?_
    rw [cut_mapG]
    contradiction
    refine w_tupl (last_at _ _) ?_
    contradiction
    generalize hS4 : (stD A f (B ++ U) ++ [Ob.lst (List.map rq (cutD (numbS ws) (some 0) (some (0 + 3))))] ++ [Ob.lst (List.map rq (cutD (numbS ws) (some 3) (some (3 + 3))))] ++ [Ob.lst (List.map rq (cutD (numbS ws) (some 6) (some (6 + 3))))] ++ [Ob.lst (List.map rq (cutD (numbS ws) (some 9) (some (9 + 3))))]) = S4
    have a5 := last_lst S4 [D.tup (List.map rq (cutD (numbS ws) (some 0) (some (0 + 3)))), D.tup (List.map rq (cutD (numbS ws) (some 3) (some (3 + 3)))), D.tup (List.map rq (cutD (numbS ws) (some 6) (some (6 + 3)))), D.tup (List.map rq (cutD (numbS ws) (some 9) (some (9 + 3))))]
    obtain ⟨U5, hU5⟩ : ∃ U5, S4 ++ [Ob.lst [D.tup (List.map rq (cutD (numbS ws) (some 0) (some (0 + 3)))), D.tup (List.map rq (cutD (numbS ws) (some 3) (some (3 + 3)))), D.tup (List.map rq (cutD (numbS ws) (some 6) (some (6 + 3)))), D.tup (List.map rq (cutD (numbS ws) (some 9) (some (9 + 3))))]] = stD A f (B ++ U ++ U5) := ⟨_, by
      rw [← hS4]
      simp only [stD_app, List.append_assoc]
      rfl⟩
    rw [hU5] at a5 ⊢
    have hD1' : DrAt (stD A f (B ++ U ++ U5)) A.length f := stD_dr
    have hW1' : Ws (stD A f (B ++ U ++ U5)) l ws := by rw [List.append_assoc]; exact stD_ws hW hl9
    refine hD1'.fld 6 (fld_ok fld6) rfl rfl ?_
    refine ⟨isLs_of (hD1'.2 6 _ rfl), ?_⟩
    contradiction
    refine w_ixl hW1'.ls (hW1'.ix (i := 1) hs.two) ?_
    contradiction
    refine w_tupl (ls_of a5) ?_
    contradiction
    refine w_addt (Nat.le_of_ble_eq_true rfl) ?_
    contradiction
    refine w_ixl hW1'.ls (hW1'.ix (i := 14) (by omega)) ?_
    contradiction
    refine w_intT e14 ?_
    contradiction
    refine w_ixl hW1'.ls (hW1'.ix (i := 15) (by omega)) ?_
    contradiction
    refine w_intT e15 ?_
    contradiction
    refine w_addt (Nat.le_of_ble_eq_true rfl) ?_
    contradiction
    refine w_append (hD1'.2 6 _ rfl) (by rw [List.length_map]; have := hv.looks; omega) ?_
    rw [stD_set (f' := { f with looks := f.looks ++ [(wd ws 1, lookD ws)] }) (by simp [Drf.obs, rowD, lookD, v14, v15, qsD]) (by decide)]
    contradiction
    rw [mk] at mp
    rw [List.append_assoc B U U5]
    exact fin mp mk
  · -- a body
    have mk : makeD f number ws = { f with bodies := f.bodies ++ [(wd ws 1, formD ws (numbS ws) (placesS f ws))], leaves := f.leaves ++ [leavesN f ws], brows := f.brows ++ [(wd ws 1, number)] } := by unfold makeD; rw [if_neg c, if_neg c2, if_neg c3]
    have nk : ¬ wd ws 1 ∈ f.brows.map (·.1) := by
      unfold twiceS at c7
      rw [if_neg c, if_neg c2, if_neg c3] at c7
      exact of_decide_eq_false c7
    have c6' : ∀ y, y ∈ spokenS ws → y ∈ f.bodies.map (·.1) := by
      intro y hy
      rw [← hv.names]
      exact of_decide_eq_true (List.all_eq_true.mp c6 y hy)
    contradiction
    refine hD1.meth mth2 rfl ?_
    contradiction
    refine w_spoken hW1 ?_
    have b1 := last_lst (stD A f (B ++ U)) ((spokenS ws).map D.str)
    have w2 : Wf (stD A f (B ++ U) ++ [.lst ((spokenS ws).map D.str)]) := w1.app (belL_map (fun _ => rfl) _)
    refine wSeq_l b1 ?_
    rw [stD_app, List.append_assoc] at b1 w2 ⊢
    have hD2 : DrAt (stD A f (B ++ (U ++ [.lst ((spokenS ws).map D.str)]))) A.length f := stD_dr
    refine w_strs (g := fun n => .int (idxB f n : Nat)) b1 (Nat.le_trans hs.spoL (by decide)) (fun y hy => ?_) ?_
    · contradiction
      refine hD2.meth mth1 rfl ?_
      contradiction
      exact w_number_of hD2 w2 (by have := hv.bodies; omega) (c6' y hy) ⟨rfl, rfl⟩
    have ep : (spokenS ws).map (fun n => D.int (idxB f n : Nat)) = (placesS f ws).map fun p : Nat => D.int p := by
      unfold placesS
      rw [List.map_map]
      rfl
    rw [ep]
    have p1 := last_lst (stD A f (B ++ (U ++ [.lst ((spokenS ws).map D.str)]))) ((placesS f ws).map fun p : Nat => D.int p)
    have hlp : A.length + 9 ≤ (stD A f (B ++ (U ++ [.lst ((spokenS ws).map D.str)]))).length := by rw [stD_len]; omega
    have w3 := w2.app (o := .lst ((placesS f ws).map fun p : Nat => D.int p)) (belL_map (fun _ => rfl) _)
    have a3 := stD_at (U := [Ob.lst ((spokenS ws).map D.str)] ++ [Ob.lst ((placesS f ws).map fun p : Nat => D.int p)]) (f' := f) a1 hln
    rw [List.append_assoc] at a3
    generalize (stD A f (B ++ (U ++ [.lst ((spokenS ws).map D.str)]))).length = lp at p1 hlp ⊢
    rw [stD_app, List.append_assoc, List.append_assoc] at p1 w3 ⊢
    generalize (U ++ ([Ob.lst ((spokenS ws).map D.str)] ++ [Ob.lst ((placesS f ws).map fun p : Nat => D.int p)])) = V at p1 w3 a3 ⊢
    have pl : (placesS f ws).length = (spokenS ws).length := by unfold placesS; rw [List.length_map]
    have spl := hs.spoL
    have hD3 : DrAt (stD A f (B ++ V)) A.length f := stD_dr
    have hW3 : Ws (stD A f (B ++ V)) l ws := stD_ws hW hl9
    contradiction
    refine hD3.fld 0 (fld_ok fld0) rfl rfl ?_
    refine ⟨isLs_of (hD3.2 0 _ rfl), ?_⟩
    contradiction
    refine w_ixl hW3.ls (hW3.ix (i := 1) hs.two) ?_
    contradiction
    refine w_form_of hW3 a3 p1 w3 (fun k => by rw [numb_len, lb k]; decide) (fun k => by rw [pl, ls k]; decide) (fun k => by
      obtain ⟨k1, k2, k3⟩ := lt k
      rw [pl, numb_len]
      omega) (by omega) ?_
    contradiction
    refine w_append (hD3.2 0 _ rfl) (by rw [List.length_map]; have := hv.bodies; omega) ?_
    rw [stD_set (f' := { f with bodies := f.bodies ++ [(wd ws 1, formD ws (numbS ws) (placesS f ws))] }) (by simp [Drf.obs, pairD]) (by decide)]
    have hD4 : DrAt (stD A { f with bodies := f.bodies ++ [(wd ws 1, formD ws (numbS ws) (placesS f ws))] } (B ++ V)) A.length { f with bodies := f.bodies ++ [(wd ws 1, formD ws (numbS ws) (placesS f ws))] } := stD_dr
    have p4 := stD_at0 (f' := { f with bodies := f.bodies ++ [(wd ws 1, formD ws (numbS ws) (placesS f ws))] }) p1 hlp
    contradiction
    refine hD4.fld 1 (fld_ok fld1) rfl rfl ?_
    refine ⟨isLs_of (hD4.2 1 _ rfl), ?_⟩
    refine w_acons (wE_mid (fun d T => d = .int (leavesN f ws) ∧ T = stD A { f with bodies := f.bodies ++ [(wd ws 1, formD ws (numbS ws) (placesS f ws))] } (B ++ V)) ?_ ?_)
    · contradiction
      refine w_lenl (ls_of p4) ?_
      contradiction
      rw [List.length_map]
      unfold leavesN
      refine wB_dec (fun k => ?_) (fun k => ?_)
      · rw [if_pos (by omega)]
        contradiction
        refine wSeq_l p4 ?_
        refine w_lmap (fun d => match d with
          | .int i => .int (f.leaves.getD i.toNat 0)
          | d => d) (by intro p hp; rw [List.mem_singleton.mp hp]; exact p4) (by rw [List.length_map]; omega) (fun d hd => ?_) ?_
        · obtain ⟨i, hi, rfl⟩ := List.mem_map.mp hd
          have hi2 : i < f.leaves.length := by
            obtain ⟨n, hn, rfl⟩ := List.mem_map.mp hi
            rw [hv.leaves]
            have := List.idxOf_lt_length_of_mem (c6' n hn)
            rwa [List.length_map] at this
          refine ⟨_, _, rfl, rfl, ?_⟩
          contradiction
          refine hD4.fld 1 (fld_ok fld1) rfl rfl ?_
          contradiction
          refine w_ixl (ls_of (hD4.2 1 _ rfl)) (getN_ix (S := []) (l := 0) hi2) ⟨?_, rfl⟩
          show D.int _ = D.int (f.leaves.getD ((i : Int)).toNat 0)
          rw [Int.toNat_natCast]
        · rw [List.map_map]
          have e : (placesS f ws).map ((fun d => match d with
              | D.int i => D.int (f.leaves.getD i.toNat 0)
              | d => d) ∘ fun p : Nat => D.int p) = ((placesS f ws).map fun i => f.leaves.getD i 0).map D.int := by
            rw [List.map_map]
            refine List.map_congr_left fun i _ => ?_
            show D.int (f.leaves.getD ((i : Int)).toNat 0) = _
            rw [Int.toNat_natCast]
            rfl
          rw [e]
          refine w_sumU ?_
          exact ⟨rfl, rfl⟩
      · rw [if_neg (by omega)]
        contradiction
        exact ⟨rfl, rfl⟩
    rintro d T ⟨rfl, rfl⟩
    contradiction
    refine w_append (hD4.2 1 _ rfl) (by rw [List.length_map]; show f.leaves.length ≤ 1000; rw [hv.leaves]; have := hv.bodies; omega) ?_
    rw [stD_set (f' := { f with bodies := f.bodies ++ [(wd ws 1, formD ws (numbS ws) (placesS f ws))], leaves := f.leaves ++ [leavesN f ws] }) (by simp [Drf.obs]) (by decide)]
    have hD5 : DrAt (stD A { f with bodies := f.bodies ++ [(wd ws 1, formD ws (numbS ws) (placesS f ws))], leaves := f.leaves ++ [leavesN f ws] } (B ++ V)) A.length { f with bodies := f.bodies ++ [(wd ws 1, formD ws (numbS ws) (placesS f ws))], leaves := f.leaves ++ [leavesN f ws] } := stD_dr
    have hW5 : Ws (stD A { f with bodies := f.bodies ++ [(wd ws 1, formD ws (numbS ws) (placesS f ws))], leaves := f.leaves ++ [leavesN f ws] } (B ++ V)) l ws := stD_ws hW hl9
    contradiction
    refine w_putK ?_
    contradiction
    refine hD5.fld 2 (fld_ok fld2) rfl rfl ?_
    contradiction
    refine w_ixl hW5.ls (hW5.ix (i := 1) hs.two) ?_
    refine ⟨_, _, _, rfl, rfl, hD5.2 2 _ rfl, by
      rw [row_len]
      show f.brows.length ≤ 1000
      have e := congrArg List.length hv.names
      rw [List.length_map, List.length_map] at e
      have := hv.bodies
      omega, ?_⟩
    rw [put_new nk, stD_set (f' := { f with bodies := f.bodies ++ [(wd ws 1, formD ws (numbS ws) (placesS f ws))], leaves := f.leaves ++ [leavesN f ws], brows := f.brows ++ [(wd ws 1, number)] }) (by simp [Drf.obs]) (by decide)]
    contradiction
    rw [mk] at mp
    exact fin mp mk
end ML

namespace ML
open PySem PySem.Spec PyProof.Rows L2 RT
/-! ### a row taken, a text's faults -/
theorem w_attr {c fn : Str} {fv fo : Den} {env : En} {S : Sto} {QS : Fl → En → Sto → Prop} (h : wE fv env S fun v S1 => wE fo env S1 fun y S2 => ∃ l fs, y = .loc l ∧ S2[l]? = some (.ins c fs) ∧ fs.length < 1000 ∧ QS .nx env (S2.set l (.ins c (putD fn v fs)))) : wS (sAttr c fn fv fo) env S QS := by
  obtain ⟨v, S1, e1, y, S2, e2, l, fs, rfl, e3, e4, q⟩ := h
  refine ⟨_, _, _, ?_, q⟩
  unfold sAttr
  rw [e1, Option.bind_some]
  dsimp only
  rw [e2, Option.bind_some]
  dsimp only
  rw [e3]
  dsimp only
  rw [if_pos ⟨rfl, e4⟩]
theorem putD_new {f : Str} {v : D} : ∀ {fs : List (Str × D)}, ¬ f ∈ fs.map (·.1) → putD f v fs = fs ++ [(f, v)]
  | [], _ => rfl
  | (g, x) :: r, h => by
    unfold putD
    rw [List.map_cons] at h
    rw [if_neg (fun z => h (by rw [← z]; exact List.mem_cons_self)), putD_new fun z => h (List.mem_cons_of_mem _ z)]
    rfl
theorem st1_at (S R : Sto) (o : Ob) : (S ++ (o :: R))[S.length]? = some o := by
  rw [List.getElem?_append_right (Nat.le_refl _), Nat.sub_self]
  rfl
theorem st1_set (S R : Sto) (o o' : Ob) : (S ++ (o :: R)).set S.length o' = S ++ (o' :: R) := by
  rw [List.set_append_right (h := Nat.le_refl _), Nat.sub_self]
  rfl
theorem w_attrL {fn : Str} {env : En} {S R : Sto} {fs : List (Str × D)} {QS : Fl → En → Sto → Prop} (he : env[0]? = some (some (.loc S.length))) (hk : ¬ fn ∈ fs.map (·.1)) (hl : fs.length < 1000)
    (q : QS .nx env (S ++ (.ins "Draft" (fs ++ [(fn, .loc (S.length + 1 + R.length))]) :: (R ++ [.lst []])))) : wS (sAttr "Draft" fn (eOwn (uLst aNil)) (eVar 0)) env (S ++ (.ins "Draft" fs :: R)) QS := by
  have el : (S ++ (Ob.ins "Draft" fs :: R)).length = S.length + 1 + R.length := by rw [List.length_append, List.length_cons]; omega
  refine w_attr (w_own (w_ulst (w_anil (w_len (w_var he ⟨_, _, rfl, app_at (st1_at S R _), hl, ?_⟩)))))
  rw [List.append_assoc, List.cons_append, st1_set, putD_new hk, el]
  exact q
theorem w_attrK {fn : Str} {env : En} {S R : Sto} {fs : List (Str × D)} {QS : Fl → En → Sto → Prop} (he : env[0]? = some (some (.loc S.length))) (hk : ¬ fn ∈ fs.map (·.1)) (hl : fs.length < 1000)
    (q : QS .nx env (S ++ (.ins "Draft" (fs ++ [(fn, .loc (S.length + 1 + R.length))]) :: (R ++ [.dk []])))) : wS (sAttr "Draft" fn eDk0 (eVar 0)) env (S ++ (.ins "Draft" fs :: R)) QS := by
  have el : (S ++ (Ob.ins "Draft" fs :: R)).length = S.length + 1 + R.length := by rw [List.length_append, List.length_cons]; omega
  refine w_attr (w_E rfl (w_var he ⟨_, _, rfl, app_at (st1_at S R _), hl, ?_⟩))
  rw [List.append_assoc, List.cons_append, st1_set, putD_new hk, el]
  exact q
def d0 : Drf := ⟨[], [], [], [], [], [], [], []⟩
theorem w_init {S : Sto} {Q : D → Sto → Prop} (q : Q .non (stD S d0 [])) : wF p_KDraft___init__ [.loc S.length] (S ++ [.ins "Draft" []]) Q := by
  apply w_mk
  focus ((repeat (first | apply InitR.s | apply InitR.z)); repeat (first | exact RepR.z | apply RepR.s))
  focus rfl
  refine w_scons (w_attrL rfl (by decide +kernel) (by simp) (kC_nx ?_))
  refine w_scons (w_attrL rfl (show ¬ (_ : Str) ∈ (["bodies"] : List Str) from by decide +kernel) (by simp) (kC_nx ?_))
  refine w_scons (w_attrK rfl (show ¬ (_ : Str) ∈ (["bodies", "leaves"] : List Str) from by decide +kernel) (by simp) (kC_nx ?_))
  refine w_scons (w_attrL rfl (show ¬ (_ : Str) ∈ (["bodies", "leaves", "body_rows"] : List Str) from by decide +kernel) (by simp) (kC_nx ?_))
  refine w_scons (w_attrK rfl (show ¬ (_ : Str) ∈ (["bodies", "leaves", "body_rows", "things"] : List Str) from by decide +kernel) (by simp) (kC_nx ?_))
  refine w_scons (w_attrL rfl (show ¬ (_ : Str) ∈ (["bodies", "leaves", "body_rows", "things", "thing_rows"] : List Str) from by decide +kernel) (by simp) (kC_nx ?_))
  refine w_scons (w_attrL rfl (show ¬ (_ : Str) ∈ (["bodies", "leaves", "body_rows", "things", "thing_rows", "lamps"] : List Str) from by decide +kernel) (by simp) (kC_nx ?_))
  refine w_scons (w_attrL rfl (show ¬ (_ : Str) ∈ (["bodies", "leaves", "body_rows", "things", "thing_rows", "lamps", "looks"] : List Str) from by decide +kernel) (by simp) (kC_nx (w_snil ?_)))
  have e : ∀ o : Ob, S ++ (o :: ([] ++ [Ob.lst []] ++ [Ob.lst []] ++ [Ob.dk []] ++ [Ob.lst []] ++ [Ob.dk []] ++ [Ob.lst []] ++ [Ob.lst []] ++ [Ob.lst []])) = S ++ (o :: d0.obs) ++ [] := by
    intro o
    rw [List.append_nil]
    rfl
  rw [e]
  show Q (gc (S ++ [Ob.ins "Draft" []]).length .non (stD S d0 [])).1 (gc (S ++ [Ob.ins "Draft" []]).length .non (stD S d0 [])).2
  have hg : gc (S ++ [Ob.ins "Draft" []]).length .non (stD S d0 []) = (.non, stD S d0 []) := by
    unfold gc
    rw [if_neg]
    intro z
    rw [Bool.and_eq_true] at z
    have hm : insD S.length ∈ (stD S d0 []).take (S ++ [Ob.ins "Draft" []]).length := by
      rw [List.mem_iff_getElem?]
      refine ⟨S.length, ?_⟩
      rw [List.getElem?_take_of_lt (by rw [List.length_append, List.length_singleton]; omega)]
      unfold stD
      rw [List.append_nil]
      exact st1_at _ _ _
    have h := List.all_eq_true.mp z.2 _ hm
    rw [List.length_append, List.length_singleton] at h
    unfold insD at h
    simp only [Ob.bel, List.all_eq_true] at h
    have h := h (("bodies" : Str), D.loc (S.length + 1 + 0)) (by
      refine List.mem_map.mpr ⟨("bodies", 0), ?_, rfl⟩
      show (("bodies" : Str), 0) ∈ [(("bodies" : Str), 0), _, _, _, _, _, _, _]
      exact List.mem_cons_self)
    simp [D.bel] at h
  rw [hg]
  exact q
theorem w_eMake {c : Str} {g : Fn} {f : ADen} {env : En} {S : Sto} {Q : D → Sto → Prop} (h : wA f env S fun xs S1 => wF g (.loc S1.length :: xs) (S1 ++ [.ins c []]) fun d S2 => d = .non ∧ Q (.loc S1.length) S2) : wE (eMake c g f) env S Q := by
  obtain ⟨xs, S1, e1, d, S2, e2, rfl, q⟩ := h
  refine ⟨_, _, ?_, q⟩
  unfold eMake
  rw [e1, Option.bind_some]
  dsimp only
  rw [e2]
  rfl
theorem wI_enumA {a : ADen} {env : En} {S : Sto} {QI : List D → List (Nat × Ob) → Sto → Prop} (h : wA a env S fun xs S1 => ∃ l ys, xs = [.loc l] ∧ S1[l]? = some (.lst ys) ∧ QI (enumD 0 ys) [(l, .lst ys)] S1) : wI (iEnumA a) env S QI := by
  obtain ⟨xs, S1, e1, l, ys, rfl, e2, q⟩ := h
  refine ⟨⟨enumD 0 ys, [(l, .lst ys)]⟩, S1, ?_, q⟩
  unfold iEnumA
  rw [e1, Option.bind_some]
  dsimp only
  have : sqD S1 (.loc l) = some (ys, [(l, .lst ys)]) := by
    unfold sqD
    dsimp only
    rw [e2]
  rw [this]
  rfl
/-! a row -/
def wrongD (f : Drf) (n : Int) (w : Str) : Drf := { f with wrongs := f.wrongs ++ [.tup [.int n, .str w]] }
def takeD (f : Drf) (n : Int) (x : Str) : Drf :=
  if 80 ≤ n ∨ shortL (TL.tl x) = false then wrongD f n "long"
  else if wordsS x = [] then f
  else if faultS f (wordsS x) = "" then makeD f n (wordsS x) else wrongD f n (faultS f (wordsS x))
theorem wrong_pure {f : Drf} (h : f.Pure) (n : Int) (w : Str) : (wrongD f n w).Pure := by
  obtain ⟨h1, h2, h3, h4, h5⟩ := h.parts
  refine Drf.pure_mk h1 h2 h3 h4 (belL_app h5 ?_)
  rfl
/-- what no fault tells -/
theorem fault_none {f : Drf} {ws : List Str} (h : faultS f ws = "") : Shp ws ∧ (namS ws).all nameS = true ∧ (¬ ∃ w, w ∈ numS ws ∧ numberL (TL.tl w) = none) ∧ (¬ (wd ws 0 = ("look" : Str) ∧ (cutD ws (some 14) none).all cellS = false)) ∧ (spokenS ws).all (fun n => decide (n ∈ f.brows.map (·.1))) = true ∧ twiceS f ws = false ∧ fitsQ (wd ws 0) (numbS ws) = true ∧ manyS f ws = false := by
  unfold faultS at h
  by_cases c : shapedS ws = false
  · rw [if_pos c] at h; exact absurd h (by decide +kernel)
  rw [if_neg c] at h
  by_cases c2 : (namS ws).all nameS = false
  · rw [if_pos c2] at h; exact absurd h (by decide +kernel)
  rw [if_neg c2] at h
  by_cases c3 : wd ws 0 = ("turn" : Str) ∧ ¬ wd ws 3 ∈ (["x", "y", "z"] : List Str)
  · rw [if_pos c3] at h; exact absurd h (by decide +kernel)
  rw [if_neg c3] at h
  by_cases c4 : ∃ w, w ∈ numS ws ∧ numberL (TL.tl w) = none
  · rw [if_pos c4] at h; exact absurd h (by decide +kernel)
  rw [if_neg c4] at h
  by_cases c5 : wd ws 0 = ("look" : Str) ∧ (cutD ws (some 14) none).all cellS = false
  · rw [if_pos c5] at h; exact absurd h (by decide +kernel)
  rw [if_neg c5] at h
  by_cases c6 : (spokenS ws).all (fun n => decide (n ∈ f.brows.map (·.1))) = false
  · rw [if_pos c6] at h; exact absurd h (by decide +kernel)
  rw [if_neg c6] at h
  by_cases c7 : twiceS f ws = true
  · rw [if_pos c7] at h; exact absurd h (by decide +kernel)
  rw [if_neg c7] at h
  by_cases c8 : fitsQ (wd ws 0) (numbS ws) = false
  · rw [if_pos c8] at h; exact absurd h (by decide +kernel)
  rw [if_neg c8] at h
  by_cases c9 : manyS f ws = true
  · rw [if_pos c9] at h; exact absurd h (by decide +kernel)
  have t : ∀ {b : Bool}, ¬ b = false → b = true := fun {b} z => by cases b <;> simp_all
  have u : ∀ {b : Bool}, ¬ b = true → b = false := fun {b} z => by cases b <;> simp_all
  exact ⟨shp_of (t c), t c2, c4, c5, t c6, u c7, t c8, u c9⟩
/-- what holds of a draft ahead of row number k -/
structure Drf.Inv (f : Drf) (k : Nat) : Prop where
  ok : f.Ok
  pure : f.Pure
  trow : f.trows.length = f.things.length
  wr : f.wrongs.length ≤ k
theorem wrong_inv {f : Drf} {k : Nat} (h : f.Inv k) (n : Int) (w : Str) : (wrongD f n w).Inv (k + 1) :=
  ⟨⟨h.ok.names, h.ok.leaves, h.ok.bodies, h.ok.things, h.ok.lamps, h.ok.looks⟩, wrong_pure h.pure n w, h.trow, by
    show (f.wrongs ++ [_]).length ≤ k + 1
    rw [List.length_append, List.length_singleton]
    have := h.wr
    omega⟩
theorem make_inv {f : Drf} {k : Nat} (h : f.Inv k) {n : Int} {ws : List Str} (hf : faultS f ws = "") : (makeD f n ws).Inv (k + 1) := by
  obtain ⟨_, _, _, _, _, _, _, c9⟩ := fault_none hf
  have hp := make_pure h.pure n ws
  obtain ⟨o1, o2, o3, o4, o5, o6⟩ := h.ok
  have hw := h.wr
  have ht := h.trow
  unfold manyS at c9
  unfold makeD at hp ⊢
  by_cases c : wd ws 0 = ("show" : Str)
  · rw [if_pos c] at c9 hp ⊢
    simp only [Bool.or_eq_false_iff, decide_eq_false_iff_not] at c9
    have := c9.1
    refine ⟨⟨o1, o2, o3, ?_, o5, o6⟩, hp, ?_, by show f.wrongs.length ≤ k + 1; omega⟩
    · show (f.things ++ [_]).length ≤ 8
      rw [List.length_append, List.length_singleton]
      omega
    · show (f.trows ++ [_]).length = (f.things ++ [_]).length
      rw [List.length_append, List.length_append, List.length_singleton, List.length_singleton, ht]
  rw [if_neg c] at c9 hp ⊢
  by_cases c2 : wd ws 0 = ("lamp" : Str)
  · rw [if_pos c2] at c9 hp ⊢
    have := of_decide_eq_false c9
    refine ⟨⟨o1, o2, o3, o4, ?_, o6⟩, hp, ht, by show f.wrongs.length ≤ k + 1; omega⟩
    show (f.lamps ++ [_]).length ≤ 3
    rw [List.length_append, List.length_singleton]
    omega
  rw [if_neg c2] at c9 hp ⊢
  by_cases c3 : wd ws 0 = ("look" : Str)
  · rw [if_pos c3] at c9 hp ⊢
    have := of_decide_eq_false c9
    refine ⟨⟨o1, o2, o3, o4, o5, ?_⟩, hp, ht, by show f.wrongs.length ≤ k + 1; omega⟩
    show (f.looks ++ [_]).length ≤ 4
    rw [List.length_append, List.length_singleton]
    omega
  rw [if_neg c3] at c9 hp ⊢
  have := of_decide_eq_false c9
  refine ⟨⟨?_, ?_, ?_, o4, o5, o6⟩, hp, ht, by show f.wrongs.length ≤ k + 1; omega⟩
  · show (f.brows ++ [(wd ws 1, n)]).map (·.1) = (f.bodies ++ [(wd ws 1, formD ws (numbS ws) (placesS f ws))]).map (·.1)
    rw [List.map_append, List.map_append, o1]
    rfl
  · show (f.leaves ++ [_]).length = (f.bodies ++ [_]).length
    rw [List.length_append, List.length_append, List.length_singleton, List.length_singleton, o2]
  · show (f.bodies ++ [_]).length ≤ 40
    rw [List.length_append, List.length_singleton]
    omega
theorem Drf.Inv.up {f : Drf} {k : Nat} (h : f.Inv k) : f.Inv (k + 1) := ⟨h.ok, h.pure, h.trow, Nat.le_succ_of_le h.wr⟩
theorem take_inv {f : Drf} {k : Nat} (h : f.Inv k) (n : Int) (x : Str) : (takeD f n x).Inv (k + 1) := by
  unfold takeD
  split
  · exact wrong_inv h n _
  · split
    · exact h.up
    · split
      · rename_i hf
        exact make_inv h hf
      · exact wrong_inv h n _
theorem d0_inv : d0.Inv 0 := ⟨⟨rfl, rfl, Nat.zero_le _, Nat.zero_le _, Nat.zero_le _, Nat.zero_le _⟩, Drf.pure_mk rfl rfl rfl rfl rfl, rfl, Nat.le_refl _⟩
theorem words_ws {x : Str} (hx : x.length ≤ 200) (ha : asc x) (hn : wordsS x ≠ []) {S : Sto} {l : Nat} (h : S[l]? = some (.lst ((wordsS x).map D.str))) : Ws S l (wordsS x) := by
  obtain ⟨a, b⟩ := split_facts ha
  refine ⟨h, hn, ?_, fun w hw => ?_⟩
  · have : (wordsS x).length ≤ (Txt.split x " ").length := by
      have hf := List.length_filter_le noE (Txt.split x " ")
      unfold wordsS
      cases e : (Txt.split x " ").filter noE with
      | nil => exact Nat.zero_le _
      | cons w r =>
        rw [e] at hf
        dsimp only
        split
        · exact Nat.zero_le _
        · exact hf
    omega
  · obtain ⟨c, d⟩ := b w (words_sub hw).1
    exact ⟨c, by omega⟩
theorem w_take {A B : Sto} {f : Drf} {k : Nat} {n : Int} {x : Str} {Q : D → Sto → Prop} (hw : Wf (stD A f B)) (hv : f.Inv k) (hk : k ≤ 900) (hx : x.length ≤ sizeLine) (ha : asc x) (q : Q .non (stD A (takeD f n x) B)) : wF p_KDraft_take [.loc A.length, .int n, .str x] (stD A f B) Q := by
  have hwr := hv.wr
  have fin : ∀ {f' : Drf} {U : Sto} {env : En}, f'.Pure → takeD f n x = f' → ∀ d, (d = Fl.nx ∨ d = .rt .non) → kR (stD A f B).length Q d env (stD A f' (B ++ U)) := by
    rintro f' U env hp' rfl d hd
    have k : Q (gc (stD A f B).length .non (stD A (takeD f n x) (B ++ U))).1 (gc (stD A f B).length .non (stD A (takeD f n x) (B ++ U))).2 := by
      rw [← stD_app, gc_wf (stD_wf hw hp') (by rw [stD_len, stD_len]) rfl]
      exact q
    rcases hd with rfl | rfl <;> exact k
  have fin0 : ∀ {f' : Drf} {env : En}, f'.Pure → takeD f n x = f' → ∀ d, (d = Fl.nx ∨ d = .rt .non) → kR (stD A f B).length Q d env (stD A f' B) := by
    intro f' env hp' e d hd
    have := fin (U := []) (env := env) hp' e d hd
    rwa [List.append_nil] at this
  have wset : ∀ {U : Sto} {w : Str}, (stD A f U).set (A.length + 1 + 7) (.lst (f.wrongs ++ [.tup [.int n, .str w]])) = stD A (wrongD f n w) U := stD_set rfl (by decide)
  trivial
  refine wB_dec (fun c => ?_) (fun c => ?_)
  · have et : takeD f n x = wrongD f n "long" := by unfold takeD; rw [if_pos (.inl c)]
    have hD : DrAt (stD A f B) A.length f := stD_dr
    contradiction
    refine hD.fld 7 (fld_ok fld7) rfl rfl ?_
    refine ⟨isLs_of (hD.2 7 _ rfl), ?_⟩
    contradiction
    refine w_append (hD.2 7 _ rfl) (by omega) ?_
    rw [wset]
    contradiction
    exact fin0 (wrong_pure hv.pure _ _) et _ (.inr rfl)
  contradiction
  refine w_is_short hx ?_
  contradiction
  refine wB_any (fun c2 => ?_) (fun c2 => ?_)
  rotate_left
  · have et : takeD f n x = wrongD f n "long" := by unfold takeD; rw [if_pos (.inr c2)]
    have hD : DrAt (stD A f B) A.length f := stD_dr
    contradiction
    refine hD.fld 7 (fld_ok fld7) rfl rfl ?_
    refine ⟨isLs_of (hD.2 7 _ rfl), ?_⟩
    contradiction
    refine w_append (hD.2 7 _ rfl) (by omega) ?_
    rw [wset]
    contradiction
    exact fin0 (wrong_pure hv.pure _ _) et _ (.inr rfl)
  have x200 : x.length ≤ 200 := by
    unfold shortL at c2
    rw [Bool.and_eq_true, decide_eq_true_eq] at c2
    rw [TL.len_tl x]
    exact c2.1
  have nl : ¬ (80 ≤ n ∨ shortL (TL.tl x) = false) := by
    rintro (z | z)
    · exact c z
    · rw [c2] at z; cases z
  contradiction
  refine w_words_of (by omega) ha fun T l hl hT hwT => ?_
  have hw1 := hwT hw
  have hl9 : A.length + 9 ≤ l := by rw [stD_len] at hl; omega
  rw [stD_app] at hT hw1 ⊢
  contradiction
  refine w_lenl (ls_of hT) ?_
  contradiction
  rw [List.length_map]
  refine wB_dec (fun c3 => ?_) (fun c3 => ?_)
  rotate_left
  · have hn : wordsS x = [] := List.length_eq_zero_iff.mp (by omega)
    have et : takeD f n x = f := by unfold takeD; rw [if_neg nl, if_pos hn]
    contradiction
    exact fin hv.pure et _ (.inl rfl)
  have hn : wordsS x ≠ [] := fun z => by rw [z] at c3; simp at c3
  have hW := words_ws x200 ha hn hT
  have hD : DrAt (stD A f (B ++ T)) A.length f := stD_dr
  contradiction
  refine hD.meth mth5 rfl ?_
  contradiction
  refine w_fault hD hW hw1 hv.ok ?_
  have af : asc (faultS f (wordsS x)) := by
    unfold faultS
    repeat' split
    all_goals exact asc_of _
  contradiction
  refine w_neT af (asc_of "") ?_
  contradiction
  refine wB_dec (fun c4 => ?_) (fun c4 => ?_)
  · have et : takeD f n x = makeD f n (wordsS x) := by unfold takeD; rw [if_neg nl, if_neg hn, if_pos c4]
    obtain ⟨hs, _, k4, k5, k6, k7, _, _⟩ := fault_none c4
    have htr : f.trows.length ≤ 900 := by rw [hv.trow]; have := hv.ok.things; omega
    contradiction
    refine hD.meth mth6 rfl ?_
    contradiction
    refine w_make hw1 hW hl9 hs hv.ok hv.pure htr k4 k5 k6 k7 ?_
    contradiction
    exact fin (make_pure hv.pure _ _) et _ (.inl rfl)
  · have et : takeD f n x = wrongD f n (faultS f (wordsS x)) := by unfold takeD; rw [if_neg nl, if_neg hn, if_neg c4]
    contradiction
    refine hD.fld 7 (fld_ok fld7) rfl rfl ?_
    refine ⟨isLs_of (hD.2 7 _ rfl), ?_⟩
    contradiction
    refine w_append (hD.2 7 _ rfl) (by omega) ?_
    rw [wset]
    contradiction
    exact fin (wrong_pure hv.pure _ _) et _ (.inl rfl)
/-! a text -/
def foldR : Nat → Drf → List Str → Drf
  | _, f, [] => f
  | n, f, x :: r => foldR (n + 1) (takeD f n x) r
def rowsS (x : Str) : List Str := Txt.split x "\n"
def draftS (x : Str) : Drf := foldR 0 d0 (rowsS x)
theorem rows_facts {x : Str} (ha : asc x) : ∀ w, w ∈ rowsS x → asc w ∧ w.length ≤ x.length := by
  have m : TL.tl ("\n" : Str) = [10] := (TL.tl_ofString "\n").trans (by decide)
  have h := split_cut (x := x) m (by decide)
  have lx : x.length = (TL.tl x).length := TL.len_tl x
  intro w hw
  have hm : TL.tl w ∈ cutAll 10 (TL.tl x) := by rw [← h]; exact List.mem_map.mpr ⟨w, hw, rfl⟩
  exact ⟨fun k hk => ha k (cutAll_mem hm hk), by rw [TL.len_tl w, lx]; exact cutAll_len.2 _ hm⟩
theorem fold_inv : ∀ {rows : List Str} {n : Nat} {f : Drf}, f.Inv n → (foldR n f rows).Inv (n + rows.length)
  | [], _, _, h => h
  | x :: r, n, f, h => by
    have := fold_inv (rows := r) (take_inv h (n : Int) x)
    rw [List.length_cons, show n + (r.length + 1) = n + 1 + r.length by omega]
    exact this
theorem w_drafted {x : Str} {S : Sto} {Q : D → Sto → Prop} (hw : Wf S) (hx : x.length + 2 ≤ sizeLine) (ha : asc x) (hr : (rowsS x).length ≤ 900) (q : Q (.loc S.length) (stD S (draftS x) [.lst ((rowsS x).map D.str)])) : wF p_drafted [.str x] S Q := by
  apply w_mk
  focus ((repeat (first | apply InitR.s | apply InitR.z)); repeat (first | exact RepR.z | apply RepR.s))
  focus rfl
  refine w_scons (w_asg (w_eMake (w_anil (w_init ⟨rfl, ?_⟩))))
  refine w_gname (.s .z) ?_
  refine kC_nx (w_scons (w_for (wI_enumA ?_)))
  refine w_acons (w_tm ?_)
  contradiction
  refine wTm_split ⟨by decide +kernel, hx⟩ ?_
  contradiction
  have h1 : (stD S d0 [] ++ [Ob.lst ((rowsS x).map D.str)])[(stD S d0 []).length]? = some (.lst ((rowsS x).map D.str)) := last_lst _ _
  have wf0 : Wf (stD S d0 [.lst ((rowsS x).map D.str)]) := by
    intro o ho
    have hlen : (stD S d0 [.lst ((rowsS x).map D.str)]).length = S.length + 10 := by rw [stD_len]; rfl
    rw [hlen]
    unfold stD at ho
    rcases List.mem_append.mp ho with ho | ho
    · rcases List.mem_append.mp ho with ho | ho
      · exact ob_mono (by omega) o (hw o ho)
      · rcases List.mem_cons.mp ho with ho | ho
        · rw [ho]
          unfold insD
          simp only [Ob.bel, List.all_eq_true]
          intro p hp
          obtain ⟨a, ha, rfl⟩ := List.mem_map.mp hp
          have h7 : a.2 < 8 := by
            obtain ⟨i, hi, rfl⟩ := List.mem_iff_getElem.mp ha
            rw [List.getElem_zipIdx]
            simp at hi ⊢
            exact hi
          simp only [D.bel, decide_eq_true_eq]
          omega
        · exact ob_mono (Nat.zero_le _) o (d0_inv.pure o ho)
    · rw [List.mem_singleton.mp ho]
      exact belL_map (fun _ => rfl) _
  refine ⟨_, _, rfl, h1, ?_⟩
  rw [stD_app, List.nil_append] at h1 ⊢
  have hl9 : S.length + 9 ≤ (stD S d0 []).length := by rw [stD_len]; exact Nat.le_refl _
  generalize (stD S d0 []).length = lr at h1 hl9 ⊢
  refine w_rinv (fun i e T => ∃ f a b, e = [some (.str x), some (.loc S.length), a, b] ∧ f.Inv i ∧ foldR 0 d0 (rowsS x) = foldR i f ((rowsS x).drop i) ∧ T = stD S f [.lst ((rowsS x).map D.str)]) ⟨d0, _, _, rfl, d0_inv, rfl, rfl⟩ ?_ ?_ ?_
  · rintro i e T ⟨f, a, b, rfl, _, _, rfl⟩
    intro p hp
    rw [List.mem_singleton.mp hp]
    exact stD_at0 h1 hl9
  · rintro i d e T hi ⟨f, a, b, rfl, hv, hf, rfl⟩
    have il : i < (rowsS x).length := by
      have := (List.getElem?_eq_some_iff.mp hi).1
      rwa [enumD_len, List.length_map] at this
    have hg : ((rowsS x).map D.str)[i]? = some (.str (rowsS x)[i]) := by
      rw [List.getElem?_map, List.getElem?_eq_getElem il]
      rfl
    have hd := enumD_get (k := 0) hg
    rw [hi] at hd
    cases hd
    have hm : (rowsS x)[i] ∈ rowsS x := List.getElem_mem il
    obtain ⟨r1, r2⟩ := rows_facts ha _ hm
    refine w_gtup rfl (w_gcons (w_gname (.s (.s .z)) (w_gcons (w_gname (.s (.s (.s .z))) (w_gnil ?_)))))
    have hD : DrAt (stD S f [.lst ((rowsS x).map D.str)]) S.length f := stD_dr
    contradiction
    refine hD.meth mth7 rfl ?_
    contradiction
    refine w_take (stD_wf wf0 hv.pure) hv (by omega) (by omega) r1 ?_
    contradiction
    refine ⟨_, _, _, rfl, take_inv hv _ _, ?_, rfl⟩
    rw [hf, List.drop_eq_getElem_cons il, foldR, Nat.zero_add]
  · rintro e T ⟨f, a, b, rfl, hv, hf, rfl⟩
    have ed : (enumD 0 ((rowsS x).map D.str)).length = (rowsS x).length := by rw [enumD_len, List.length_map]
    rw [ed, List.drop_length] at hf
    have hf : draftS x = f := hf
    rw [← hf]
    contradiction
    exact kR_loc q (Nat.le_refl _)
theorem w_faults {x : Str} {S : Sto} {Q : D → Sto → Prop} (hw : Wf S) (hx : x.length + 2 ≤ sizeLine) (ha : asc x) (hr : (rowsS x).length ≤ 900) (q : Q (.tup (draftS x).wrongs) S) : wF p_faults [.str x] S Q := by
  have hi : (draftS x).Inv (0 + (rowsS x).length) := fold_inv d0_inv
  have hp : D.bel S.length (.tup (draftS x).wrongs) = true := belL_mono (Nat.zero_le _) _ hi.pure.parts.2.2.2.2
  trivial
  refine w_fld (w_call (w_acons (w_var rfl (w_anil (w_drafted hw hx ha hr ?_)))))
  have hD : DrAt (stD S (draftS x) [.lst ((rowsS x).map D.str)]) S.length (draftS x) := stD_dr
  refine ⟨_, _, _, rfl, hD.1, fld_ok fld7, ?_⟩
  contradiction
  refine w_tupl (ls_of (hD.2 7 _ rfl)) ?_
  contradiction
  unfold stD
  rw [List.append_assoc]
  exact kR_wf hw hp rfl q
end ML

namespace ML
open PySem PySem.Spec PyProof.Rows L2 RT
/-! ### the deck of a text law: cells, how many were drawn, what is left -/
structure TD (n : Nat) (rest : List Ob) (S : Sto) : Prop where
  wf : Wf S
  ex : ∃ (X : List Ob) (cs rs : List Int), X.length = 5 ∧ S = X ++ ([.lst (cs.map D.int), .lst (rs.map D.int), .lst [.loc 5, .int (n : Int), .loc 6]] ++ rest) ∧ cs.length = rs.length ∧ 0 < cs.length ∧ cs.length ≤ 64 ∧ ∀ x ∈ rs, 0 ≤ x
theorem TD.len {n : Nat} {rest : List Ob} {S : Sto} (h : TD n rest S) : S.length = rest.length + 8 := by
  obtain ⟨X, cs, rs, a1, rfl, -⟩ := h.ex
  simp [a1]
  omega
theorem TD.app {n : Nat} {rest more : List Ob} {S : Sto} (h : TD n rest S) (w : Wf (S ++ more)) : TD n (rest ++ more) (S ++ more) := by
  obtain ⟨X, cs, rs, a1, rfl, r⟩ := h.ex
  exact ⟨w, X, cs, rs, a1, by simp, r⟩
theorem TD.snoc {n : Nat} {rest : List Ob} {o : Ob} {S : Sto} (h : TD n rest S) (ho : o.bel (S.length + 1) = true) : TD n (rest ++ [o]) (S ++ [o]) := h.app (h.wf.app ho)
theorem TD.get {n : Nat} {rest : List Ob} {S : Sto} (h : TD n rest S) (i : Nat) : S[i + 8]? = rest[i]? := by
  obtain ⟨X, cs, rs, a1, rfl, -⟩ := h.ex
  rw [List.getElem?_append_right (by omega), a1, show i + 8 - 5 = i + 3 by omega]
  rfl
theorem td_at {X rest : List Ob} {a b c : Ob} (h : X.length = 5) : (X ++ ([a, b, c] ++ rest))[5]? = some a ∧ (X ++ ([a, b, c] ++ rest))[6]? = some b ∧ (X ++ ([a, b, c] ++ rest))[7]? = some c := by
  refine ⟨?_, ?_, ?_⟩ <;> rw [List.getElem?_append_right (by omega), h] <;> rfl
theorem td_set6 {X rest : List Ob} {a b b' c : Ob} (h : X.length = 5) : (X ++ ([a, b, c] ++ rest)).set 6 b' = X ++ ([a, b', c] ++ rest) := by
  rw [List.set_append_right _ _ (by omega), h]
  rfl
theorem td_set7 {X rest : List Ob} {a b c c' : Ob} (h : X.length = 5) : (X ++ ([a, b, c] ++ rest)).set 7 c' = X ++ ([a, b, c'] ++ rest) := by
  rw [List.set_append_right _ _ (by omega), h]
  rfl
theorem at_mapI {xs : List Int} {i : Nat} (h : i < xs.length) : atI (xs.map D.int) (i : Int) = some (.int (xs[i]'h)) := by
  rw [atI_n, List.getElem?_map, List.getElem?_eq_getElem h]
  rfl
theorem w_mulB {i j : Int} {S : Sto} {Q : D → Sto → Prop} (h : -2 ^ 64 < j ∧ j < 2 ^ 64) (q : Q (.int (i * j)) S) : w2 gMulB (.int i) (.int j) S Q := ⟨_, _, if_pos h, q⟩
theorem w_next {n : Nat} {rest : List Ob} {S : Sto} {Q : D → Sto → Prop} {k : Int} (h : TD n rest S) (hn : n < 2 ^ 30) (hk : 0 < k) (wd : wideD k) (q : ∀ v T, 0 ≤ v → v < k → TD (n + 1) rest T → Q (.int v) T) : wF s_next [.loc 7, .int k] S Q := by
  have lS := h.len
  have wf := h.wf
  obtain ⟨X, cs, rs, hX, rfl, hcr, c0, c64, rn⟩ := h.ex
  have at5 : ∀ {a b c : Ob}, (X ++ ([a, b, c] ++ rest))[5]? = some a := (td_at hX).1
  have at6 : ∀ {a b c : Ob}, (X ++ ([a, b, c] ++ rest))[6]? = some b := (td_at hX).2.1
  have at7 : ∀ {a b c : Ob}, (X ++ ([a, b, c] ++ rest))[7]? = some c := (td_at hX).2.2
  have len : ∀ (a b c : Ob), (X ++ ([a, b, c] ++ rest)).length = rest.length + 8 := fun a b c => by simp [hX]; omega
  have vk : ∀ a : Int, 0 ≤ a.fmod k ∧ a.fmod k < k := fun a => ⟨Int.fmod_nonneg_of_pos a hk, Int.fmod_lt_of_pos a hk⟩
  have ns : ((n : Int) + 1) = ((n + 1 : Nat) : Int) := by omega
  have wf1 : Wf (X ++ ([.lst (cs.map D.int), .lst (rs.map D.int), .lst [.loc 5, .int ((n + 1 : Nat) : Int), .loc 6]] ++ rest)) := by
    rw [← td_set7 (c := .lst [.loc 5, .int (n : Int), .loc 6]) hX]
    refine wf.set ?_
    rw [lS]
    simp [Ob.bel, D.belL, D.bel]
  have mk1 : TD (n + 1) rest (X ++ ([.lst (cs.map D.int), .lst (rs.map D.int), .lst [.loc 5, .int ((n + 1 : Nat) : Int), .loc 6]] ++ rest)) := ⟨wf1, X, cs, rs, hX, rfl, hcr, c0, c64, rn⟩
  trivial
  refine w_gtupLl (ls_of at7) rfl ?_
  contradiction
  refine w_lenl (ls_of at5) ?_
  contradiction
  rw [List.length_map]
  refine w_mod (by omega) ?_
  have m1 := Int.fmod_nonneg_of_pos (n : Int) (show 0 < (cs.length : Int) by omega)
  have m2 := Int.fmod_lt_of_pos (n : Int) (show 0 < (cs.length : Int) by omega)
  obtain ⟨p, hp⟩ : ∃ p : Nat, (n : Int).fmod (cs.length : Int) = (p : Int) := ⟨((n : Int).fmod (cs.length : Int)).toNat, by omega⟩
  rw [hp]
  have pc : p < cs.length := by omega
  have pr : p < rs.length := by omega
  contradiction
  refine wPut_l (ys := [.loc 5, .int ((n : Int) + 1), .loc 6]) at7 (j := 1) rfl rfl ?_
  rw [td_set7 hX, ns]
  contradiction
  refine w_ixl (ls_of at6) (at_mapI pr) ?_
  contradiction
  refine wB_dec (fun c => ?_) (fun c => ?_)
  · contradiction
    refine w_ixl (ls_of at6) (at_mapI pr) ?_
    contradiction
    refine w_mod (by omega) ?_
    contradiction
    refine w_ixl (ls_of at6) (at_mapI pr) ?_
    contradiction
    refine w_fdiv wd ?_
    contradiction
    refine wPut_l (ys := (rs.set p ((rs[p]'pr).fdiv k)).map D.int) at6 (j := p) (by simp [ixN]; omega) (by rw [List.map_set]) ?_
    rw [td_set6 hX]
    contradiction
    refine kR_same (q _ _ (vk _).1 (vk _).2 ⟨?_, X, cs, rs.set p ((rs[p]'pr).fdiv k), hX, rfl, by rw [List.length_set]; exact hcr, c0, c64, ?_⟩) (by rw [len, len])
    · rw [← td_set6 (b := .lst (rs.map D.int)) hX]
      exact wf1.set (belL_map (fun _ => rfl) _)
    · intro x hx
      rcases List.mem_or_eq_of_mem_set hx with hx | rfl
      · exact rn x hx
      · exact Int.fdiv_nonneg (rn _ (List.getElem_mem pr)) (by omega)
  · contradiction
    refine w_ixl (ls_of at5) (at_mapI pc) ?_
    contradiction
    refine w_mul (wideM_of (a := 22) (b := 40) (by omega) (by omega)) ?_
    contradiction
    refine w_mod (by decide) ?_
    generalize (cs[p]'pc + 1000003 * (n : Int) + 77) = z
    have z1 := Int.fmod_nonneg_of_pos z (show (0 : Int) < 2147483647 by decide)
    have z2 := Int.fmod_lt_of_pos z (show (0 : Int) < 2147483647 by decide)
    contradiction
    refine w_2 (x_pow ⟨by decide, by decide, by omega⟩) ?_
    contradiction
    refine w_mod (by decide) ?_
    generalize (z.fmod 2147483647 ^ (5 : Int).toNat) = y
    have y1 := Int.fmod_nonneg_of_pos y (show (0 : Int) < 2147483629 by decide)
    have y2 := Int.fmod_lt_of_pos y (show (0 : Int) < 2147483629 by decide)
    contradiction
    refine w_mod (by decide) ?_
    have u1 := Int.fmod_nonneg_of_pos (n : Int) (show (0 : Int) < 9973 by decide)
    have u2 := Int.fmod_lt_of_pos (n : Int) (show (0 : Int) < 9973 by decide)
    refine w_mul (wideM_of (a := 22) (b := 40) (by omega) (by omega)) ?_
    contradiction
    refine w_2 (x_pow ⟨by decide, by decide, by omega⟩) ?_
    contradiction
    refine w_mod (by decide) ?_
    contradiction
    refine w_fdiv ⟨by decide, by decide⟩ ?_
    contradiction
    refine w_mod (by omega) ?_
    contradiction
    exact kR_same (q _ _ (vk _).1 (vk _).2 mk1) (by rw [len, len])
theorem w_deckT {ns : List Int} (hl : ns.length ≤ 63) {Q : D → Sto → Prop} (q : ∀ T, TD 0 [] T → Q (.loc 7) T) : wF s_deck [.loc 0] [.rol (ns.map D.int)] Q := by
  apply w_mk
  focus ((repeat (first | apply InitR.s | apply InitR.z)); repeat (first | exact RepR.z | apply RepR.s))
  focus rfl
  contradiction
  have l0 : lsAt [Ob.rol (List.map D.int ns)] 0 = some (ns.map D.int) := rfl
  refine w_oSome ?_
  contradiction
  refine ⟨_, rfl, ?_⟩
  refine wSl_l l0 ?_
  rw [cut_mapG]
  obtain ⟨ms, em, lm⟩ : ∃ ms : List Int, cutD ns none (some 63) = ms ∧ ms.length ≤ ns.length := ⟨_, rfl, by
    unfold cutD
    rw [List.length_take, List.length_drop]
    omega⟩
  rw [em]
  refine wLi_l (xs := ms.map D.int) rfl ?_
  contradiction
  refine w_lenl (xs := ns.map D.int) rfl ?_
  contradiction
  rw [List.length_map]
  obtain ⟨rep, t, ht, t0, t1, hrep, hne⟩ : ∃ (rep : List Int) (t : Nat), (if decide ((ns.length : Int) = 0) = true then (1 : Int) else 0) = (t : Int) ∧ t ≤ 1 ∧ rep.length ≤ 1 ∧ (List.replicate t [D.int 0]).flatten = rep.map D.int ∧ 0 < (ms ++ rep).length := by
    cases ns with
    | nil =>
      have : ms = [] := by
        cases ms with
        | nil => rfl
        | cons a b => simp at lm
      subst this
      exact ⟨[0], 1, rfl, by decide, by decide, rfl, by decide⟩
    | cons a as =>
      refine ⟨[], 0, ?_, by decide, by decide, rfl, ?_⟩
      · rw [if_neg]
        · rfl
        · simp
          omega
      · rw [← em, List.append_nil]
        unfold cutD
        rw [HT.sIx_none, List.length_take, List.length_drop]
        have := HT.sIx_nat (a :: as).length (a :: as).length 63
        rw [show ((63 : Nat) : Int) = 63 from rfl] at this
        rw [this]
        simp
        omega
  rw [ht]
  refine w_mulll (xs := [.int 0]) rfl ⟨by omega, by omega, by simp; omega⟩ ?_
  rw [Int.toNat_natCast, hrep]
  contradiction
  refine w_addll (xs := ms.map D.int) (ys := rep.map D.int) rfl rfl (by simp; omega) ?_
  rw [← List.map_append]
  contradiction
  obtain ⟨cs, ec⟩ : ∃ cs, cs = ms ++ rep := ⟨_, rfl⟩
  have c64 : cs.length ≤ 64 := by rw [ec, List.length_append]; omega
  rw [← ec] at hne ⊢
  have at5 : ([Ob.rol (List.map D.int ns), Ob.lst (ms.map D.int), Ob.lst (ms.map D.int), Ob.lst [D.int 0], Ob.lst (rep.map D.int), Ob.lst (cs.map D.int)] : Sto)[5]? = some (.lst (cs.map D.int)) := rfl
  refine wSeq_l (l := 5) (xs := cs.map D.int) at5 ?_
  refine w_lmap (fun d => match d with
    | .int i => .int (i * (if decide (i ≥ 10 ^ 18) = true then 1 else 0))
    | d => d) (by intro p hp; rw [List.mem_singleton.mp hp]; exact at5) (by rw [List.length_map]; omega) (fun d hd => ?_) ?_
  · obtain ⟨i, hi, rfl⟩ := List.mem_map.mp hd
    refine ⟨_, _, rfl, rfl, ?_⟩
    contradiction
    refine w_mulB ?_ ⟨rfl, rfl⟩
    split <;> decide
  rw [List.map_map]
  have e : (cs.map ((fun d => match d with
      | D.int i => D.int (i * (if decide (i ≥ 10 ^ 18) = true then 1 else 0))
      | d => d) ∘ D.int)) = (cs.map fun i => i * (if decide (i ≥ 10 ^ 18) = true then 1 else 0)).map D.int := by
    rw [List.map_map]
    rfl
  rw [e]
  contradiction
  refine kR_loc (q _ ⟨?_, [Ob.rol (List.map D.int ns), Ob.lst (ms.map D.int), Ob.lst (ms.map D.int), Ob.lst [D.int 0], Ob.lst (rep.map D.int)], cs, cs.map fun i => i * (if decide (i ≥ 10 ^ 18) = true then 1 else 0), rfl, rfl, by rw [List.length_map], hne, c64, ?_⟩) (by show 1 ≤ 7; decide)
  · intro o ho
    have bi := fun n (is : List Int) => belL_ints (n := n) is
    rcases List.mem_append.mp ho with ho | ho
    · rcases List.mem_append.mp ho with ho | ho
      · have ho : o ∈ [Ob.rol (List.map D.int ns), Ob.lst (ms.map D.int), Ob.lst (ms.map D.int), Ob.lst [D.int 0], Ob.lst (rep.map D.int), Ob.lst (cs.map D.int)] := ho
        simp only [List.mem_cons, List.not_mem_nil, or_false] at ho
        rcases ho with rfl | rfl | rfl | rfl | rfl | rfl
        · exact bi _ _
        · exact bi _ _
        · exact bi _ _
        · rfl
        · exact bi _ _
        · exact bi _ _
      · rw [List.mem_singleton.mp ho]
        exact bi _ _
    · rw [List.mem_singleton.mp ho]
      rfl
  · intro x hx
    obtain ⟨i, _, rfl⟩ := List.mem_map.mp hx
    by_cases h : i ≥ 10 ^ 18
    · rw [decide_eq_true h, if_pos rfl]
      omega
    · rw [decide_eq_false h, if_neg Bool.false_ne_true]
      omega
end ML

namespace ML
open PySem PySem.Spec PyProof.Rows L2 RT
/-! ### tools of the text laws -/
/-! texts as lists of signs -/
theorem map_tl_inj : ∀ {xs ys : List Str}, xs.map TL.tl = ys.map TL.tl → xs = ys
  | [], [], _ => rfl
  | [], _ :: _, h => by cases h
  | _ :: _, [], h => by cases h
  | x :: xs, y :: ys, h => by
    rw [List.map_cons, List.map_cons] at h
    injection h with h1 h2
    rw [TL.ext_tl h1, map_tl_inj h2]
theorem cutAll_app {c : Nat} : ∀ {A B : List Nat}, ¬ c ∈ A → cutAll c (A ++ c :: B) = A :: cutAll c B
  | [], B, _ => by rw [List.nil_append, cutAll, if_pos rfl]
  | a :: A, B, h => by
    rw [List.cons_append, cutAll, if_neg (fun e => h (by rw [e]; exact List.mem_cons_self)), cutAll_app fun z => h (List.mem_cons_of_mem _ z)]
theorem cutAll_one {c : Nat} : ∀ {A : List Nat}, ¬ c ∈ A → cutAll c A = [A]
  | [], _ => rfl
  | a :: A, h => by
    rw [cutAll, if_neg (fun e => h (by rw [e]; exact List.mem_cons_self)), cutAll_one fun z => h (List.mem_cons_of_mem _ z)]
theorem cutAll_join {c : Nat} : ∀ {Ls : List (List Nat)}, Ls ≠ [] → (∀ L ∈ Ls, ¬ c ∈ L) → cutAll c (TL.joinL [c] Ls) = Ls
  | [], h, _ => absurd rfl h
  | [L], _, h => by
    show cutAll c L = [L]
    exact cutAll_one (h L List.mem_cons_self)
  | L :: M :: Ls, _, h => by
    show cutAll c (L ++ (c :: TL.joinL [c] (M :: Ls))) = _
    rw [ cutAll_app (h L List.mem_cons_self), cutAll_join (List.cons_ne_nil _ _) fun K hK => h K (List.mem_cons_of_mem _ hK)]
theorem tl_nl : TL.tl ("\n" : Str) = [10] := (TL.tl_ofString "\n").trans (by decide)
theorem tl_sp : TL.tl (" " : Str) = [32] := (TL.tl_ofString " ").trans (by decide)
theorem rows_tl (x : Str) : (rowsS x).map TL.tl = cutAll 10 (TL.tl x) := split_cut tl_nl (by decide)
theorem joinL_flat (S : List Nat) : ∀ (y : List Nat) (r : List (List Nat)), TL.joinL S (y :: r) = y ++ (r.map fun p => S ++ p).flatten
  | y, [] => (List.append_nil y).symm
  | y, z :: r => by
    rw [TL.joinL.eq_3, joinL_flat S z r, List.map_cons, List.flatten_cons, List.append_assoc]
theorem tl_join (a : Str) (ys : List Str) : TL.tl (Txt.join a ys) = TL.joinL (TL.tl a) (ys.map TL.tl) := by
  cases ys with
  | nil => rfl
  | cons y r =>
    rw [List.map_cons, joinL_flat]
    have key : ∀ (r : List Str) (acc : Array Nat), (r.foldl (fun acc p => acc ++ a.cps ++ p.cps) acc).toList = acc.toList ++ ((r.map TL.tl).map fun p => TL.tl a ++ p).flatten := by
      intro r
      induction r with
      | nil => intro acc; simp
      | cons p r ih =>
        intro acc
        rw [List.foldl_cons, ih, Array.toList_append, Array.toList_append, List.map_cons, List.map_cons, List.flatten_cons, List.append_assoc, List.append_assoc, List.append_assoc]
    exact key r y.cps
theorem rows_join {xs : List Str} (h : xs ≠ []) (hx : ∀ x ∈ xs, ¬ 10 ∈ TL.tl x) : rowsS (Txt.join "\n" xs) = xs := by
  refine map_tl_inj ?_
  rw [rows_tl, tl_join, tl_nl]
  refine cutAll_join (fun z => h (List.map_eq_nil_iff.mp z)) fun L hL => ?_
  obtain ⟨x, hx', rfl⟩ := List.mem_map.mp hL
  exact hx x hx'
def wordsL (L : List Nat) : List (List Nat) :=
  match (cutAll 32 L).filter (fun w => !w.isEmpty) with
  | [] => []
  | w :: r => if w.head? = some 35 then [] else w :: r
theorem tl_ne {w : Str} : noE w = !(TL.tl w).isEmpty := by
  unfold noE
  by_cases h : w = ("" : Str)
  · subst h
    rw [decide_eq_true rfl]
    rfl
  · rw [decide_eq_false h]
    have : TL.tl w ≠ [] := fun z => h (TL.ext_tl (z.trans (show [] = TL.tl ("" : Str) from rfl)))
    cases e : TL.tl w with
    | nil => exact absurd e this
    | cons a b => rfl
theorem filter_tl : ∀ xs : List Str, (xs.filter noE).map TL.tl = (xs.map TL.tl).filter fun w => !w.isEmpty
  | [] => rfl
  | x :: xs => by
    have ih := filter_tl xs
    rw [List.map_cons, List.filter_cons, List.filter_cons, tl_ne]
    cases (TL.tl x).isEmpty
    · exact congrArg _ ih
    · exact ih
theorem words_tl (x : Str) : (wordsS x).map TL.tl = wordsL (TL.tl x) := by
  unfold wordsS wordsL
  rw [← split_cut (x := x) tl_sp (by decide), ← filter_tl]
  cases (Txt.split x " ").filter noE with
  | nil => rfl
  | cons w r =>
    show (if (TL.tl w).head? = some 35 then [] else w :: r : List Str).map TL.tl = if (TL.tl w).head? = some 35 then [] else TL.tl w :: r.map TL.tl
    split <;> rfl
/-- words that stand as they are -/
def gword (L : List Nat) : Bool := !L.isEmpty && (!decide (L.head? = some 35) && L.all fun c => decide (33 ≤ c) && decide (c ≤ 126))
theorem gword_sp {L : List Nat} (h : gword L = true) {c : Nat} (hc : c ∈ L) : 33 ≤ c ∧ c ≤ 126 := by
  unfold gword at h
  simp only [Bool.and_eq_true] at h
  have := List.all_eq_true.mp h.2.2 c hc
  simpa using this
/-- how long words are -/
def lenW (ws : List Str) : Nat := (ws.map fun w => w.length + 1).sum
theorem lenW_cnt : ∀ ws : List Str, ws.length ≤ lenW ws ∧ (ws.map (·.length)).sum + ws.length = lenW ws
  | [] => ⟨Nat.le_refl _, rfl⟩
  | w :: ws => by
    obtain ⟨a, b⟩ := lenW_cnt ws
    have e : lenW (w :: ws) = w.length + 1 + lenW ws := rfl
    rw [e, List.length_cons, List.map_cons, List.sum_cons]
    omega
theorem joinL_len (c : Nat) : ∀ Ls : List (List Nat), (TL.joinL [c] Ls).length ≤ (Ls.map fun L => L.length + 1).sum
  | [] => Nat.le_refl _
  | [L] => by
    show L.length ≤ L.length + 1 + 0
    omega
  | L :: M :: Ls => by
    have ih := joinL_len c (M :: Ls)
    show (L ++ (c :: TL.joinL [c] (M :: Ls))).length ≤ L.length + 1 + ((M :: Ls).map fun L => L.length + 1).sum
    rw [List.length_append, List.length_cons]
    omega
theorem join_len (y : Str) {c : Nat} (hy : TL.tl y = [c]) (ws : List Str) : (Txt.join y ws).length ≤ lenW ws := by
  rw [TL.len_tl, tl_join, hy]
  refine Nat.le_trans (joinL_len c _) ?_
  unfold lenW
  rw [List.map_map]
  refine Nat.le_of_eq (congrArg _ (List.map_congr_left fun w _ => ?_))
  show (TL.tl w).length + 1 = _
  rw [← TL.len_tl]
theorem joinL_mem {c k : Nat} : ∀ {Ls : List (List Nat)}, k ∈ TL.joinL [c] Ls → k = c ∨ ∃ L ∈ Ls, k ∈ L
  | [], h => by cases h
  | [L], h => .inr ⟨L, List.mem_cons_self, h⟩
  | L :: M :: Ls, h => by
    have h : k ∈ L ++ (c :: TL.joinL [c] (M :: Ls)) := h
    rcases List.mem_append.mp h with h | h
    · exact .inr ⟨L, List.mem_cons_self, h⟩
    rcases List.mem_cons.mp h with h | h
    · exact .inl h
    · rcases joinL_mem h with h | ⟨K, hK, h⟩
      · exact .inl h
      · exact .inr ⟨K, List.mem_cons_of_mem _ hK, h⟩
/-! dicts -/
/-! drafts -/
theorem make_wr (f : Drf) (n : Int) (ws : List Str) : (makeD f n ws).wrongs = f.wrongs := by
  unfold makeD
  split
  · rfl
  · split
    · rfl
    · split <;> rfl
end ML

namespace ML
open PySem PySem.Spec PyProof.Rows L2 RT
/-! ### words in the store beside a deck -/
def GW (b : Nat) (ws : List Str) : Prop := ws ≠ [] ∧ (∀ w ∈ ws, gword (TL.tl w) = true) ∧ lenW ws ≤ b
theorem lenW_mem : ∀ {ws : List Str} {w : Str}, w ∈ ws → w.length + 1 ≤ lenW ws
  | v :: ws, w, h => by
    have e : lenW (v :: ws) = v.length + 1 + lenW ws := rfl
    rw [e]
    rcases List.mem_cons.mp h with rfl | h
    · omega
    · have := lenW_mem h
      omega
theorem gword_asc {w : Str} (h : gword (TL.tl w) = true) : asc w := fun c hc => by have := gword_sp h hc; omega
theorem GW.ws {b : Nat} {ws : List Str} (h : GW b ws) (hb : b ≤ 400) {S : Sto} {l : Nat} (hl : S[l]? = some (.lst (ws.map D.str))) : Ws S l ws := by
  obtain ⟨h1, h2, h3⟩ := h
  refine ⟨hl, h1, by have := (lenW_cnt ws).1; omega, fun w hw => ⟨gword_asc (h2 w hw), by have := lenW_mem hw; omega⟩⟩
theorem TD.same {n m : Nat} {R : List Ob} {S T : Sto} (h : TD n R S) (h' : TD m R T) {l : Nat} (hl : 8 ≤ l) : T[l]? = S[l]? := by
  obtain ⟨k, rfl⟩ : ∃ k, l = k + 8 := ⟨l - 8, by omega⟩
  rw [h.get, h'.get]
theorem TD.same_at {n m : Nat} {R : List Ob} {S T : Sto} (h : TD n R S) (h' : TD m R T) {l : Nat} (hl : 8 ≤ l) {o : Ob} (e : S[l]? = some o) : T[l]? = some o := by rw [h.same h' hl, e]
theorem lenW_cons (w : Str) (ws : List Str) : lenW (w :: ws) = w.length + 1 + lenW ws := rfl
/-! ### a deck somewhere, all else kept -/
def TX (n : Nat) (S : Sto) : Prop := ∃ rest, TD n rest S
structure Kp (S T : Sto) : Prop where
  len : S.length ≤ T.length
  at_ : ∀ {l : Nat} {o : Ob}, 8 ≤ l → S[l]? = some o → T[l]? = some o
theorem Kp.refl (S : Sto) : Kp S S := ⟨Nat.le_refl _, fun _ h => h⟩
theorem Kp.trans {S T R : Sto} (a : Kp S T) (b : Kp T R) : Kp S R := ⟨Nat.le_trans a.len b.len, fun l h => b.at_ l (a.at_ l h)⟩
theorem Kp.app {S T : Sto} (a : Kp S T) (U : Sto) : Kp S (T ++ U) := ⟨by rw [List.length_append]; have := a.len; omega, fun l h => app_at (a.at_ l h)⟩
theorem TX.wf {n : Nat} {S : Sto} (h : TX n S) : Wf S := h.elim fun _ t => t.wf
theorem TX.len8 {n : Nat} {S : Sto} (h : TX n S) : 8 ≤ S.length := by
  obtain ⟨r, t⟩ := h
  have := t.len
  omega
theorem TX.app {n : Nat} {S U : Sto} (h : TX n S) (w : Wf (S ++ U)) : TX n (S ++ U) := h.elim fun _ t => ⟨_, t.app w⟩
theorem TX.snoc {n : Nat} {S : Sto} {o : Ob} (h : TX n S) (ho : o.bel (S.length + 1) = true) : TX n (S ++ [o]) := h.app (h.wf.app ho)
theorem TX.take {n k : Nat} {S : Sto} (h : TX n S) (hk : 8 ≤ k) (w : Wf (S.take k)) : TX n (S.take k) := by
  obtain ⟨r, ⟨_, X, cs, rs, hX, e, r2⟩⟩ := h
  refine ⟨r.take (k - 8), w, X, cs, rs, hX, ?_, r2⟩
  rw [e, List.take_append, hX, List.take_of_length_le (by omega), List.take_append, List.take_of_length_le (by simp; omega)]
  rfl
theorem w_nextX {n : Nat} {S : Sto} {Q : D → Sto → Prop} {k : Int} (h : TX n S) (hn : n < 2 ^ 30) (hk : 0 < k) (wd : wideD k) (q : ∀ v T, 0 ≤ v → v < k → TX (n + 1) T → Kp S T → Q (.int v) T) : wF s_next [.loc 7, .int k] S Q := by
  obtain ⟨r, t⟩ := h
  refine w_next t hn hk wd fun v T v0 v1 t1 => q v T v0 v1 ⟨r, t1⟩ ⟨?_, fun hl e => t.same_at t1 hl e⟩
  rw [t.len, t1.len]
  exact Nat.le_refl _
/-- what a def leaves -/
theorem kR_X {m : Nat} {S T : Sto} {d : D} {env : En} {Q : D → Sto → Prop} (h : TX m T) (k : Kp S T) (h8 : 8 ≤ S.length) (q : ∀ T', TX m T' → Kp S T' → Q d T') : kR S.length Q (.rt d) env T := by
  show Q (gc S.length d T).1 (gc S.length d T).2
  unfold gc
  split
  · rename_i hc
    rw [Bool.and_eq_true] at hc
    have hl : (T.take S.length).length = S.length := by rw [List.length_take]; have := k.len; omega
    refine q _ (h.take h8 fun o ho => ?_) ⟨by rw [hl]; exact Nat.le_refl _, fun hl e => ?_⟩
    · rw [hl]
      exact List.all_eq_true.mp hc.2 o ho
    · have := (List.getElem?_eq_some_iff.mp e).1
      rw [List.getElem?_take_of_lt this]
      exact k.at_ hl e
  · exact q T h k
theorem TX.set {n l : Nat} {S : Sto} {o : Ob} (h : TX n S) (hl : 8 ≤ l) (ho : o.bel S.length = true) : TX n (S.set l o) := by
  obtain ⟨r, ⟨w, X, cs, rs, hX, e, r2⟩⟩ := h
  refine ⟨r.set (l - 8) o, w.set ho, X, cs, rs, hX, ?_, r2⟩
  rw [e, List.set_append_right (h := by omega), hX, List.set_append_right (h := by simp; omega)]
  congr 2
theorem Kp.set {S T : Sto} {l : Nat} {o : Ob} (h : Kp S T) (hl : S.length ≤ l) : Kp S (T.set l o) :=
  ⟨by rw [List.length_set]; exact h.len, fun h8 e => by
    have := (List.getElem?_eq_some_iff.mp e).1
    rw [List.getElem?_set_ne (by omega)]
    exact h.at_ h8 e⟩
theorem set_at {S : Sto} {l : Nat} {o o' : Ob} (h : S[l]? = some o) : (S.set l o')[l]? = some o' := List.getElem?_set_self (List.getElem?_eq_some_iff.mp h).1
theorem w_addTx {x y : Str} {S : Sto} {Q : D → Sto → Prop} (h : x.length + y.length ≤ 1000) (q : Q (.str (x ++ y)) S) : w2 gAdd (.str x) (.str y) S Q := ⟨_, _, if_pos (line_pos h), q⟩
theorem foldR_app : ∀ (xs ys : List Str) (n : Nat) (f : Drf), foldR n f (xs ++ ys) = foldR (n + xs.length) (foldR n f xs) ys
  | [], ys, n, f => rfl
  | x :: xs, ys, n, f => by
    rw [List.cons_append, foldR, foldR, foldR_app xs ys (n + 1), List.length_cons, show n + 1 + xs.length = n + (xs.length + 1) by omega]
theorem join_asc {y : Str} {c : Nat} (hy : TL.tl y = [c]) (hc : c < 0x110000) {xs : List Str} (h : ∀ x ∈ xs, asc x) : asc (Txt.join y xs) := by
  intro k hk
  rw [tl_join, hy] at hk
  rcases joinL_mem hk with rfl | ⟨L, hL, hk⟩
  · exact hc
  · obtain ⟨x, hx, rfl⟩ := List.mem_map.mp hL
    exact h x hx k hk
end ML

namespace ML
open PySem PySem.Spec PyProof.Rows L2 RT
/-! ### a fault: what the row tells by itself, and what the draft tells -/
def preS (ws : List Str) : Str :=
  if shapedS ws = false then "word"
  else if (namS ws).all nameS = false then "name"
  else if wd ws 0 = ("turn" : Str) ∧ ¬ wd ws 3 ∈ (["x", "y", "z"] : List Str) then "axis"
  else if ∃ w, w ∈ numS ws ∧ numberL (TL.tl w) = none then "number"
  else if wd ws 0 = ("look" : Str) ∧ (cutD ws (some 14) none).all cellS = false then "number"
  else ""
def postS (f : Drf) (ws : List Str) : Str :=
  if (spokenS ws).all (fun n => decide (n ∈ f.brows.map (·.1))) = false then "none"
  else if twiceS f ws = true then "twice"
  else if fitsQ (wd ws 0) (numbS ws) = false then "kind"
  else if manyS f ws = true then "many"
  else ""
theorem fault_split (f : Drf) (ws : List Str) : faultS f ws = if preS ws = "" then postS f ws else preS ws := by
  unfold faultS preS
  by_cases c : shapedS ws = false
  · rw [if_pos c, if_pos c, if_neg (by decide +kernel)]
  rw [if_neg c, if_neg c]
  by_cases c2 : (namS ws).all nameS = false
  · rw [if_pos c2, if_pos c2, if_neg (by decide +kernel)]
  rw [if_neg c2, if_neg c2]
  by_cases c3 : wd ws 0 = ("turn" : Str) ∧ ¬ wd ws 3 ∈ (["x", "y", "z"] : List Str)
  · rw [if_pos c3, if_pos c3, if_neg (by decide +kernel)]
  rw [if_neg c3, if_neg c3]
  by_cases c4 : ∃ w, w ∈ numS ws ∧ numberL (TL.tl w) = none
  · rw [if_pos c4, if_pos c4, if_neg (by decide +kernel)]
  rw [if_neg c4, if_neg c4]
  by_cases c5 : wd ws 0 = ("look" : Str) ∧ (cutD ws (some 14) none).all cellS = false
  · rw [if_pos c5, if_pos c5, if_neg (by decide +kernel)]
  rw [if_neg c5, if_neg c5, if_pos rfl]
  rfl
/-! drafts told by rows of names -/
structure RelK (f : Drf) (dB dS dL dK : List (Str × Int)) : Prop where
  b1 : f.brows.map (·.1) = dB.map (·.1)
  b2 : f.bodies.map (·.1) = dB.map (·.1)
  lv : f.leaves = dB.map (·.2)
  s1 : f.trows.map (·.1) = dS.map (·.1)
  l1 : f.lamps.map (·.1) = dL.map (·.1)
  k1 : f.looks.map (·.1) = dK.map (·.1)
  tl : f.things.length = dS.length
  pos : ∀ p ∈ dB, 1 ≤ p.2
theorem look_idx : ∀ {l : List (Str × Int)} {w : Str}, w ∈ l.map (·.1) → (l.map (·.2)).getD ((l.map (·.1)).idxOf w) 0 = (l.lookup w).getD 0
  | [], w, h => by cases h
  | (k, v) :: r, w, h => by
    rw [List.lookup_cons, List.map_cons, List.map_cons, List.idxOf_cons]
    by_cases e : k = w
    · subst e
      rw [beq_self_eq_true]
      rfl
    · rw [show (k == w) = false from beq_eq_false_iff_ne.mpr e, show (w == k) = false from beq_eq_false_iff_ne.mpr fun z => e z.symm]
      have h2 : w ∈ r.map (·.1) := by
        rcases List.mem_cons.mp h with h | h
        · exact absurd h.symm e
        · exact h
      have ih := look_idx h2
      show (v :: r.map (·.2)).getD ((r.map (·.1)).idxOf w + 1) 0 = _
      rw [List.getD_cons_succ]
      exact ih
theorem look_pos {l : List (Str × Int)} (h : ∀ p ∈ l, 1 ≤ p.2) {w : Str} (hw : w ∈ l.map (·.1)) : 1 ≤ (l.lookup w).getD 0 := by
  cases e : l.lookup w with
  | some v => exact h _ (look_mem e)
  | none =>
    exfalso
    obtain ⟨p, hp, rfl⟩ := List.mem_map.mp hw
    have : ∀ {l : List (Str × Int)}, p ∈ l → l.lookup p.1 = none → False := by
      intro l
      induction l with
      | nil => intro z; cases z
      | cons q r ih =>
        intro hp hn
        rw [List.lookup_cons] at hn
        rcases List.mem_cons.mp hp with rfl | hp
        · rw [beq_self_eq_true] at hn
          cases hn
        · cases hq : p.1 == q.1 with
          | true => rw [hq] at hn; cases hn
          | false => rw [hq] at hn; exact ih hp hn
    exact this hp e
def takenL (ws : List Str) (dB dS dL dK : List (Str × Int)) : List (Str × Int) :=
  if wd ws 0 = ("show" : Str) then dS else if wd ws 0 = ("lamp" : Str) then dL else if wd ws 0 = ("look" : Str) then dK else dB
def leavesL (sp : List Str) (dB : List (Str × Int)) : Int := max 1 ((sp.map fun n => (dB.lookup n).getD 0).sum)
theorem RelK.twice {f : Drf} {dB dS dL dK : List (Str × Int)} (h : RelK f dB dS dL dK) (ws : List Str) : twiceS f ws = decide (wd ws 1 ∈ (takenL ws dB dS dL dK).map (·.1)) := by
  unfold twiceS takenL
  rw [h.b1, h.s1, h.l1, h.k1]
  split
  · rfl
  · split
    · rfl
    · split <;> rfl
theorem sum_pos {α : Type} {g : α → Int} : ∀ {l : List α}, (∀ a ∈ l, 1 ≤ g a) → (l.length : Int) ≤ (l.map g).sum
  | [], _ => by simp
  | a :: l, h => by
    have h1 := h a List.mem_cons_self
    have h2 := sum_pos (g := g) (l := l) fun b hb => h b (List.mem_cons_of_mem _ hb)
    rw [List.map_cons, List.sum_cons, List.length_cons]
    omega
theorem RelK.leaves {f : Drf} {dB dS dL dK : List (Str × Int)} (h : RelK f dB dS dL dK) {ws : List Str} (hs : ∀ n ∈ spokenS ws, n ∈ dB.map (·.1)) : leavesN f ws = leavesL (spokenS ws) dB := by
  unfold leavesN leavesL placesS idxB
  rw [List.length_map, List.map_map]
  have e : (spokenS ws).map ((fun i => f.leaves.getD i 0) ∘ fun n => (f.bodies.map (·.1)).idxOf n) = (spokenS ws).map fun n => (dB.lookup n).getD 0 := by
    refine List.map_congr_left fun n hn => ?_
    show f.leaves.getD ((f.bodies.map (·.1)).idxOf n) 0 = _
    rw [h.b2, h.lv]
    exact look_idx (hs n hn)
  have p := sum_pos (g := fun n => (dB.lookup n).getD 0) (l := spokenS ws) fun n hn => look_pos h.pos (hs n hn)
  rw [e]
  split
  · omega
  · rename_i c
    have : spokenS ws = [] := List.length_eq_zero_iff.mp (by omega)
    rw [this]
    rfl
/-- what a row makes of the rows of names -/
theorem RelK.make {f : Drf} {dB dS dL dK : List (Str × Int)} (h : RelK f dB dS dL dK) {ws : List Str} (n : Int) (v : Int) (hs : ∀ n ∈ spokenS ws, n ∈ dB.map (·.1)) (hv : v = leavesL (spokenS ws) dB) : RelK (makeD f n ws)
    (if wd ws 0 = ("show" : Str) ∨ wd ws 0 = ("lamp" : Str) ∨ wd ws 0 = ("look" : Str) then dB else dB ++ [(wd ws 1, v)])
    (if wd ws 0 = ("show" : Str) then dS ++ [(wd ws 1, v)] else dS) (if wd ws 0 = ("lamp" : Str) then dL ++ [(wd ws 1, v)] else dL) (if wd ws 0 = ("look" : Str) then dK ++ [(wd ws 1, v)] else dK) := by
  have d1 : ¬ ("show" : Str) = "lamp" := by decide +kernel
  have d2 : ¬ ("show" : Str) = "look" := by decide +kernel
  have d3 : ¬ ("lamp" : Str) = "look" := by decide +kernel
  have hl := h.leaves hs
  obtain ⟨b1, b2, lv, s1, l1, k1, tl, pos⟩ := h
  unfold makeD
  by_cases c : wd ws 0 = ("show" : Str)
  · rw [if_pos c, if_pos (.inl c), if_pos c, if_neg (fun z => d1 (c.symm.trans z)), if_neg (fun z => d2 (c.symm.trans z))]
    refine ⟨b1, b2, lv, ?_, l1, k1, ?_, pos⟩
    · show (f.trows ++ [(wd ws 1, n)]).map (·.1) = _
      rw [List.map_append, List.map_append, s1]
      rfl
    · show (f.things ++ [_]).length = _
      rw [List.length_append, List.length_append, tl]
      rfl
  rw [if_neg c]
  by_cases c2 : wd ws 0 = ("lamp" : Str)
  · rw [if_pos c2, if_pos (.inr (.inl c2)), if_neg c, if_pos c2, if_neg (fun z => d3 (c2.symm.trans z))]
    refine ⟨b1, b2, lv, s1, ?_, k1, tl, pos⟩
    show (f.lamps ++ [(wd ws 1, qsD (numbS ws))]).map (·.1) = _
    rw [List.map_append, List.map_append, l1]
    rfl
  rw [if_neg c2]
  by_cases c3 : wd ws 0 = ("look" : Str)
  · rw [if_pos c3, if_pos (.inr (.inr c3)), if_neg c, if_neg c2, if_pos c3]
    refine ⟨b1, b2, lv, s1, l1, ?_, tl, pos⟩
    show (f.looks ++ [(wd ws 1, lookD ws)]).map (·.1) = _
    rw [List.map_append, List.map_append, k1]
    rfl
  rw [if_neg c3, if_neg (by rintro (z | z | z); exact c z; exact c2 z; exact c3 z), if_neg c, if_neg c2, if_neg c3]
  refine ⟨?_, ?_, ?_, s1, l1, k1, tl, ?_⟩
  · show (f.brows ++ [(wd ws 1, n)]).map (·.1) = _
    rw [List.map_append, List.map_append, b1]
    rfl
  · show (f.bodies ++ [(wd ws 1, formD ws (numbS ws) (placesS f ws))]).map (·.1) = _
    rw [List.map_append, List.map_append, b2]
    rfl
  · show f.leaves ++ [leavesN f ws] = _
    rw [List.map_append, lv, hl, ← hv]
    rfl
  · intro p hp
    rcases List.mem_append.mp hp with hp | hp
    · exact pos p hp
    · rw [List.mem_singleton.mp hp, hv]
      show 1 ≤ leavesL _ _
      unfold leavesL
      omega
theorem RelK.wrong {f : Drf} {dB dS dL dK : List (Str × Int)} (h : RelK f dB dS dL dK) (n : Int) (w : Str) : RelK (wrongD f n w) dB dS dL dK := ⟨h.b1, h.b2, h.lv, h.s1, h.l1, h.k1, h.tl, h.pos⟩
end ML

namespace ML
open PySem PySem.Spec PyProof.Rows L2 RT
/-! ### rows with what is due of them -/
def manyK (ws : List Str) (dB dS dL dK : List (Str × Int)) : Prop :=
  if wd ws 0 = ("show" : Str) then dS.length = 8 ∨ 8 < (dB.lookup (wd ws 1)).getD 0
  else if wd ws 0 = ("lamp" : Str) then dL.length = 3 else if wd ws 0 = ("look" : Str) then dK.length = 4 else dB.length = 40
instance (ws : List Str) (dB dS dL dK : List (Str × Int)) : Decidable (manyK ws dB dS dL dK) := by unfold manyK; infer_instance
theorem RelK.many {f : Drf} {dB dS dL dK : List (Str × Int)} (h : RelK f dB dS dL dK) {ws : List Str} (hs : wd ws 0 = ("show" : Str) → wd ws 1 ∈ dB.map (·.1)) : manyS f ws = decide (manyK ws dB dS dL dK) := by
  have lB : f.bodies.length = dB.length := by have := congrArg List.length h.b2; rwa [List.length_map, List.length_map] at this
  have lL : f.lamps.length = dL.length := by have := congrArg List.length h.l1; rwa [List.length_map, List.length_map] at this
  have lK : f.looks.length = dK.length := by have := congrArg List.length h.k1; rwa [List.length_map, List.length_map] at this
  unfold manyS
  by_cases s : wd ws 0 = ("show" : Str)
  · rw [if_pos s, h.b2, h.lv, look_idx (hs s), h.tl, ← Bool.decide_or, decide_eq_decide]
    unfold manyK
    rw [if_pos s]
  rw [if_neg s]
  by_cases l : wd ws 0 = ("lamp" : Str)
  · rw [if_pos l, lL, decide_eq_decide]
    unfold manyK
    rw [if_neg s, if_pos l]
  rw [if_neg l]
  by_cases k : wd ws 0 = ("look" : Str)
  · rw [if_pos k, lK, decide_eq_decide]
    unfold manyK
    rw [if_neg s, if_neg l, if_pos k]
  rw [if_neg k, lB, decide_eq_decide]
  unfold manyK
  rw [if_neg s, if_neg l, if_neg k]
/-- the fault of a row that is right by itself, new, and speaks of what there is -/
theorem RelK.fault {f : Drf} {dB dS dL dK : List (Str × Int)} (h : RelK f dB dS dL dK) {ws : List Str} (hp : preS ws = "") (hs : ∀ n ∈ spokenS ws, n ∈ dB.map (·.1)) (h1 : wd ws 0 = ("show" : Str) → wd ws 1 ∈ dB.map (·.1)) (ht : ¬ wd ws 1 ∈ (takenL ws dB dS dL dK).map (·.1)) (hf : fitsQ (wd ws 0) (numbS ws) = true) : faultS f ws = if manyK ws dB dS dL dK then "many" else "" := by
  rw [fault_split, if_pos hp]
  unfold postS
  rw [h.b1, h.twice, hf, h.many h1, decide_eq_false ht]
  rw [if_neg (by
    rw [List.all_eq_true.mpr fun n hn => decide_eq_true (hs n hn)]
    exact Bool.noConfusion), if_neg Bool.false_ne_true, if_neg (by exact Bool.noConfusion)]
  by_cases c : manyK ws dB dS dL dK
  · rw [if_pos (decide_eq_true c), if_pos c]
  · rw [if_neg (fun z => c (of_decide_eq_true z)), if_neg c]
def dueD : Nat → List (Str × Str) → List D
  | _, [] => []
  | k, p :: r => (if p.2 = "" then [] else [.tup [.int k, .str p.2]]) ++ dueD (k + 1) r
theorem dueD_app : ∀ (P Q : List (Str × Str)) (k : Nat), dueD k (P ++ Q) = dueD k P ++ dueD (k + P.length) Q
  | [], Q, k => rfl
  | p :: P, Q, k => by
    rw [List.cons_append, dueD, dueD, dueD_app P Q (k + 1), List.append_assoc, List.length_cons, show k + 1 + P.length = k + (P.length + 1) by omega]
/-- rows so far, and their draft -/
structure StP (P : List (Str × Str)) (dB dS dL dK : List (Str × Int)) : Prop where
  inv : (foldR 0 d0 (P.map (·.1))).Inv P.length
  rel : RelK (foldR 0 d0 (P.map (·.1))) dB dS dL dK
  due : (foldR 0 d0 (P.map (·.1))).wrongs = dueD 0 P
  rows : ∀ p ∈ P, (asc p.1 ∧ ¬ 10 ∈ TL.tl p.1 ∧ p.1.length ≤ 500) ∧ (p.2 = "" ∨ p.2 = "many")
theorem StP.nil : StP [] [] [] [] [] := ⟨d0_inv, ⟨rfl, rfl, rfl, rfl, rfl, rfl, rfl, fun p hp => by cases hp⟩, rfl, fun p hp => by cases hp⟩
theorem take_row {f : Drf} {n : Int} {x : Str} {ws : List Str} (hn : n < 80) (hs : shortL (TL.tl x) = true) (hw : wordsS x = ws) (h0 : ws ≠ []) : takeD f n x = if faultS f ws = "" then makeD f n ws else wrongD f n (faultS f ws) := by
  unfold takeD
  rw [if_neg (fun z => z.elim (fun z => by omega) (fun z => by rw [hs] at z; cases z)), hw, if_neg h0]
theorem short_ok {x : Str} (h : shortL (TL.tl x) = true) : asc x ∧ ¬ 10 ∈ TL.tl x ∧ x.length ≤ 500 := by
  unfold shortL at h
  rw [Bool.and_eq_true, decide_eq_true_eq, List.all_eq_true] at h
  have k : ∀ c ∈ TL.tl x, 32 ≤ c ∧ c ≤ 126 := fun c hc => by have := h.2 c hc; simpa using this
  have e := TL.len_tl x
  exact ⟨fun c hc => by have := k c hc; omega, fun z => by have := k 10 z; omega, by omega⟩
theorem StP.step {P : List (Str × Str)} {dB dS dL dK : List (Str × Int)} (h : StP P dB dS dL dK) (hl : P.length < 80) {x : Str} {ws : List Str} (hsh : shortL (TL.tl x) = true) (hw : wordsS x = ws) (h0 : ws ≠ []) (hp : preS ws = "") (hs : ∀ n ∈ spokenS ws, n ∈ dB.map (·.1)) (h1 : wd ws 0 = ("show" : Str) → wd ws 1 ∈ dB.map (·.1)) (ht : ¬ wd ws 1 ∈ (takenL ws dB dS dL dK).map (·.1)) (hf : fitsQ (wd ws 0) (numbS ws) = true) :
    (manyK ws dB dS dL dK → StP (P ++ [(x, Str.ofString "many")]) dB dS dL dK) ∧ (¬ manyK ws dB dS dL dK → StP (P ++ [(x, Str.ofString "")])
    (if wd ws 0 = ("show" : Str) ∨ wd ws 0 = ("lamp" : Str) ∨ wd ws 0 = ("look" : Str) then dB else dB ++ [(wd ws 1, leavesL (spokenS ws) dB)])
    (if wd ws 0 = ("show" : Str) then dS ++ [(wd ws 1, leavesL (spokenS ws) dB)] else dS) (if wd ws 0 = ("lamp" : Str) then dL ++ [(wd ws 1, leavesL (spokenS ws) dB)] else dL) (if wd ws 0 = ("look" : Str) then dK ++ [(wd ws 1, leavesL (spokenS ws) dB)] else dK)) := by
  have fe := h.rel.fault hp hs h1 ht hf
  have tr := take_row (f := foldR 0 d0 (P.map (·.1))) (n := (P.length : Int)) (by omega) hsh hw h0
  have hi := take_inv h.inv (P.length : Int) x
  have fold : ∀ w : Str, foldR 0 d0 ((P ++ [(x, w)]).map (·.1)) = takeD (foldR 0 d0 (P.map (·.1))) (P.length : Int) x := by
    intro w
    rw [List.map_append, foldR_app, List.length_map, Nat.zero_add]
    rfl
  have rows' : ∀ w : Str, (w = "" ∨ w = "many") → ∀ p ∈ P ++ [(x, w)], (asc p.1 ∧ ¬ 10 ∈ TL.tl p.1 ∧ p.1.length ≤ 500) ∧ (p.2 = "" ∨ p.2 = "many") := by
    intro w hw p hp
    rcases List.mem_append.mp hp with hp | hp
    · exact h.rows p hp
    · rw [List.mem_singleton.mp hp]
      exact ⟨short_ok hsh, hw⟩
  constructor
  · intro c
    rw [if_pos c] at fe
    rw [fe, if_neg (by decide +kernel)] at tr
    refine ⟨?_, ?_, ?_, rows' _ (.inr rfl)⟩
    · rw [fold, List.length_append]
      exact hi
    · rw [fold, tr]
      exact h.rel.wrong _ _
    · rw [fold, tr, dueD_app, Nat.zero_add]
      show _ ++ _ = _
      rw [h.due]
      show _ = dueD 0 P ++ ((if ("many" : Str) = "" then [] else _) ++ [])
      rw [if_neg (by decide +kernel), List.append_nil]
  · intro c
    rw [if_neg c] at fe
    rw [fe, if_pos rfl] at tr
    refine ⟨?_, ?_, ?_, rows' _ (.inl rfl)⟩
    · rw [fold, List.length_append]
      exact hi
    · rw [fold, tr]
      exact h.rel.make _ _ hs rfl
    · rw [fold, tr, make_wr, dueD_app, Nat.zero_add, h.due]
      show _ = dueD 0 P ++ ((if ("" : Str) = "" then [] else _) ++ [])
      rw [if_pos rfl, List.append_nil, List.append_nil]
/-! rows right by themselves, whatever their names -/
theorem set_neq {S : Sto} {i j : Nat} {o o' : Ob} (h : i ≠ j) (e : S[j]? = some o') : (S.set i o)[j]? = some o' := by rw [List.getElem?_set_ne h]; exact e
end ML

namespace Cl
open PySem PySem.Spec PyProof.Rows L2 ML RT
/-! ### k15: the lines drawn -/
def lampB : Str := "lamp a 0 0 0"
def lampO : Str := "# lamps 0 0 "
def LT : List (Str × Bool) := [(repS " " 199, false), (repS " " 200, false), (repS " " 201, true), ("# " ++ repS "x" 197, false), ("# " ++ repS "x" 198, false), ("# " ++ repS "x" 199, true),
  (lampB ++ repS " " 187, false), (lampB ++ repS " " 188, false), (lampB ++ repS " " 189, true), ("#\t", true), ("half a" ++ "\t", true), ("", false), ("#", false), ("# box", false), ("  ", false), ("# ~", false)]
def is4 (x : Str) : Bool := decide (cutS x none (some (4 : Int)) = ("lamp" : Str))
def LW : List Str := ["lamp", "a", "0", "0", "0"]
def okR (x : Str) (k : Bool) : Prop := (asc x ∧ ¬ 10 ∈ TL.tl x ∧ x.length ≤ 500) ∧ shortL (TL.tl x) = !k
instance (x : Str) (k : Bool) : Decidable (okR x k) := by unfold okR asc; infer_instance
def RL (x : Str) : List Nat := StrLaws.replL (TL.tl lampB) (TL.tl lampO) (TL.tl x)
theorem tl_repl (x : Str) : TL.tl (Txt.replace x lampB lampO) = RL x := StrLaws.replace_list (by decide +kernel)
def okRL (L : List Nat) (k : Bool) : Prop := ((∀ c ∈ L, c < 0x110000) ∧ ¬ 10 ∈ L ∧ L.length ≤ 500) ∧ shortL L = !k
instance (L : List Nat) (k : Bool) : Decidable (okRL L k) := by unfold okRL; infer_instance
theorem okR_of {x : Str} {k : Bool} (h : okRL (RL x) k) : okR (Txt.replace x lampB lampO) k := by
  rw [← tl_repl] at h
  obtain ⟨⟨h1, h2, h3⟩, h4⟩ := h
  exact ⟨⟨h1, h2, by rw [TL.len_tl]; exact h3⟩, h4⟩
def okL (p : Str × Bool) : Prop := okR p.1 p.2 ∧ asc (cutS p.1 none (some (4 : Int))) ∧ (is4 p.1 = false → p.2 = false → wordsL (TL.tl p.1) = []) ∧
  (is4 p.1 = true → (p.2 = false → wordsL (TL.tl p.1) = LW.map TL.tl) ∧ okRL (RL p.1) p.2 ∧ (p.2 = false → wordsL (RL p.1) = []))
instance (p : Str × Bool) : Decidable (okL p) := by unfold okL asc; infer_instance
theorem lt_ok : ∀ p ∈ LT, okL p := by decide +kernel
theorem words_nil {x : Str} (h : wordsL (TL.tl x) = []) : wordsS x = [] := by
  rw [← words_tl] at h
  exact List.map_eq_nil_iff.mp h
theorem words_is {x : Str} {ws : List Str} (h : wordsL (TL.tl x) = ws.map TL.tl) : wordsS x = ws := by
  rw [← words_tl] at h
  exact map_tl_inj h
theorem lw_pre : preS LW = "" ∧ fitsQ (wd LW 0) (numbS LW) = true := by decide +kernel
structure StL (P : List (Str × Str)) (dL : List (Str × Int)) : Prop where
  inv : (foldR 0 d0 (P.map (·.1))).Inv P.length
  rel : RelK (foldR 0 d0 (P.map (·.1))) [] [] dL []
  due : (foldR 0 d0 (P.map (·.1))).wrongs = dueD 0 P
  rows : ∀ p ∈ P, (asc p.1 ∧ ¬ 10 ∈ TL.tl p.1 ∧ p.1.length ≤ 500) ∧ (p.2 = "" ∨ p.2 = "long")
theorem StL.nil : StL [] [] := ⟨d0_inv, ⟨rfl, rfl, rfl, rfl, rfl, rfl, rfl, fun p hp => by cases hp⟩, rfl, fun p hp => by cases hp⟩
theorem StL.fold {P : List (Str × Str)} (x w : Str) : foldR 0 d0 ((P ++ [(x, w)]).map (·.1)) = takeD (foldR 0 d0 (P.map (·.1))) (P.length : Int) x := by
  rw [List.map_append, foldR_app, List.length_map, Nat.zero_add]
  rfl
theorem StL.add {P : List (Str × Str)} {dL dL' : List (Str × Int)} (h : StL P dL) {x w : Str} (hx : asc x ∧ ¬ 10 ∈ TL.tl x ∧ x.length ≤ 500) (hw : w = "" ∨ w = "long")
    (hr : RelK (takeD (foldR 0 d0 (P.map (·.1))) (P.length : Int) x) [] [] dL' []) (he : (takeD (foldR 0 d0 (P.map (·.1))) (P.length : Int) x).wrongs = (foldR 0 d0 (P.map (·.1))).wrongs ++ (if w = "" then [] else [.tup [.int (P.length : Nat), .str w]])) : StL (P ++ [(x, w)]) dL' := by
  refine ⟨?_, ?_, ?_, ?_⟩
  · rw [StL.fold, List.length_append]
    exact take_inv h.inv (P.length : Int) x
  · rw [StL.fold]
    exact hr
  · rw [StL.fold, he, dueD_app, Nat.zero_add, h.due]
    show _ = dueD 0 P ++ ((if w = "" then [] else _) ++ [])
    rw [List.append_nil]
  · intro p hp
    rcases List.mem_append.mp hp with hp | hp
    · exact h.rows p hp
    · rw [List.mem_singleton.mp hp]
      exact ⟨hx, hw⟩
theorem long_ne : ¬ ("long" : Str) = "" := by decide +kernel
theorem StL.long {P : List (Str × Str)} {dL : List (Str × Int)} (h : StL P dL) {x : Str} {k : Bool} (hx : okR x k) (hk : k = true ∨ 80 ≤ P.length) : StL (P ++ [(x, Str.ofString "long")]) dL := by
  have e : takeD (foldR 0 d0 (P.map (·.1))) (P.length : Int) x = wrongD (foldR 0 d0 (P.map (·.1))) (P.length : Int) "long" := by
    unfold takeD
    refine if_pos ?_
    rcases hk with rfl | hk
    · exact .inr hx.2
    · exact .inl (by omega)
  refine h.add hx.1 (.inr rfl) (by rw [e]; exact h.rel.wrong _ _) ?_
  rw [e, if_neg long_ne]
  rfl
theorem StL.none {P : List (Str × Str)} {dL : List (Str × Int)} (h : StL P dL) (hl : P.length < 80) {x : Str} (hx : okR x false) (hw : wordsS x = []) : StL (P ++ [(x, Str.ofString "")]) dL := by
  have e : takeD (foldR 0 d0 (P.map (·.1))) (P.length : Int) x = foldR 0 d0 (P.map (·.1)) := by
    unfold takeD
    rw [if_neg (fun z => z.elim (fun z => by omega) (fun z => by have := hx.2; rw [z] at this; cases this)), if_pos hw]
  refine h.add hx.1 (.inl rfl) (by rw [e]; exact h.rel) ?_
  rw [e, if_pos rfl, List.append_nil]
theorem StL.lamp {P : List (Str × Str)} (h : StL P []) (hl : P.length < 80) {x : Str} (hx : okR x false) (hw : wordsS x = LW) : StL (P ++ [(x, Str.ofString "")]) [("a", 1)] := by
  have e0 : wd LW 0 = ("lamp" : Str) := rfl
  have n1 : ¬ wd LW 0 = ("show" : Str) := by rw [e0]; decide +kernel
  have n3 : ¬ wd LW 0 = ("look" : Str) := by rw [e0]; decide +kernel
  have sp : spokenS LW = [] := spoken_lamp _
  have tk : takenL LW [] [] [] [] = [] := by unfold takenL; rw [if_neg n1, if_pos e0]
  have mk : ¬ manyK LW [] [] [] [] := by unfold manyK; rw [if_neg n1, if_pos e0]; decide
  have fe := h.rel.fault (ws := LW) lw_pre.1 (by rw [sp]; intro x hx; cases hx) (fun z => absurd z n1) (by rw [tk]; intro z; cases z) lw_pre.2
  rw [if_neg mk] at fe
  have e := take_row (f := foldR 0 d0 (P.map (·.1))) (n := (P.length : Int)) (by omega) hx.2 hw (List.cons_ne_nil _ _)
  rw [fe, if_pos rfl] at e
  refine h.add hx.1 (.inl rfl) ?_ ?_
  · rw [e]
    have := h.rel.make (ws := LW) (P.length : Int) 1 (by rw [sp]; intro x hx; cases hx) (by rw [sp]; rfl)
    rw [if_pos (.inr (.inl e0)), if_neg n1, if_pos e0, if_neg n3] at this
    exact this
  · rw [e, make_wr, if_pos rfl, List.append_nil]
/-- the line that the law lays -/
def lineN (c : Nat) (x : Str) : Str := if is4 x = true ∧ 0 < c then Txt.replace x lampB lampO else x
def whyN (P : List (Str × Str)) (k : Bool) : Str := if k = true ∨ 80 ≤ P.length then "long" else ""
theorem StL.step {P : List (Str × Str)} {dL : List (Str × Int)} {c : Nat} (h : StL P dL) (hc : c = 0 → dL = []) {x : Str} {k : Bool} (hx : (x, k) ∈ LT) :
    ∃ dL', StL (P ++ [(lineN c x, whyN P k)]) dL' ∧ ((if is4 x = true then c + 1 else c) = 0 → dL' = []) := by
  obtain ⟨o1, _, o2, o3⟩ := lt_ok _ hx
  by_cases i : is4 x = true
  · obtain ⟨w1, o4, w2⟩ := o3 i
    have o4 := okR_of o4
    rw [← tl_repl] at w2
    rw [if_pos i]
    by_cases l : k = true ∨ 80 ≤ P.length
    · unfold whyN
      rw [if_pos l]
      refine ⟨dL, ?_, fun z => by omega⟩
      unfold lineN
      split
      · exact h.long o4 l
      · exact h.long o1 l
    · unfold whyN
      rw [if_neg l]
      have kf : k = false := by
        cases k
        · rfl
        · exact absurd (.inl rfl) l
      subst kf
      have hl : P.length < 80 := by
        by_cases z : 80 ≤ P.length
        · exact absurd (.inr z) l
        · omega
      by_cases c0 : c = 0
      · subst c0
        rw [hc rfl] at h
        refine ⟨[("a", 1)], ?_, fun z => by omega⟩
        unfold lineN
        rw [if_neg (by omega)]
        exact h.lamp hl o1 (words_is (w1 rfl))
      · refine ⟨dL, ?_, fun z => by omega⟩
        unfold lineN
        rw [if_pos ⟨i, by omega⟩]
        exact h.none hl o4 (words_nil (w2 rfl))
  · rw [if_neg i]
    have e : lineN c x = x := if_neg fun z => i z.1
    rw [e]
    by_cases l : k = true ∨ 80 ≤ P.length
    · unfold whyN
      rw [if_pos l]
      exact ⟨dL, h.long o1 l, hc⟩
    · unfold whyN
      rw [if_neg l]
      have kf : k = false := by
        cases k
        · rfl
        · exact absurd (.inl rfl) l
      subst kf
      have hl : P.length < 80 := by
        by_cases z : 80 ≤ P.length
        · exact absurd (.inr z) l
        · omega
      exact ⟨dL, h.none hl o1 (words_nil (o2 (Bool.eq_false_iff.mpr i) rfl)), hc⟩
theorem join_rows9 {xs : List Str} (hx : ∀ x ∈ xs, asc x ∧ ¬ 10 ∈ TL.tl x ∧ x.length ≤ 500) (hl : xs.length ≤ 90) (h : xs ≠ []) : asc (Txt.join "\n" xs) ∧ (Txt.join "\n" xs).length + 2 ≤ sizeLine ∧ (xs.map (·.length)).sum + xs.length * ("\n" : Str).length ≤ 16777216 ∧ (rowsS (Txt.join "\n" xs)).length ≤ 900 ∧ draftS (Txt.join "\n" xs) = foldR 0 d0 xs := by
  have hs : lenW xs ≤ 501 * xs.length := by
    clear hl h
    induction xs with
    | nil => exact Nat.le_refl _
    | cons x xs ih =>
      have h1 := (hx x List.mem_cons_self).2.2
      have h2 := ih fun y hy => hx y (List.mem_cons_of_mem _ hy)
      rw [lenW_cons, List.length_cons]
      omega
  have hj := join_len "\n" tl_nl xs
  have hc := (lenW_cnt xs).2
  have h1 : ("\n" : Str).length = 1 := by rw [TL.len_tl, tl_nl]; rfl
  refine ⟨join_asc tl_nl (by decide) fun x hx' => (hx x hx').1, by rw [sizeLine_eq]; omega, by rw [h1]; omega, ?_⟩
  have e := rows_join h fun x hx' => (hx x hx').2.1
  unfold draftS
  rw [e]
  exact ⟨by omega, rfl⟩
theorem pdL_appM {n : Nat} : ∀ {xs ys : List D}, pdL n xs = true → pdL n ys = true → pdL n (xs ++ ys) = true
  | [], _, _, h => h
  | x :: xs, ys, h1, h2 => by
    simp only [pdL, Bool.and_eq_true] at h1
    show pdL n (x :: (xs ++ ys)) = true
    simp only [pdL, h1.1, pdL_appM h1.2 h2, Bool.and_self]
theorem pd_due : ∀ (P : List (Str × Str)) (k : Nat), (∀ p ∈ P, p.2 = "" ∨ p.2 = "long") → pdL 3 (dueD k P) = true
  | [], _, _ => rfl
  | p :: r, k, h => by
    have ih := pd_due r (k + 1) fun q hq => h q (List.mem_cons_of_mem _ hq)
    unfold dueD
    refine pdL_appM ?_ ih
    split
    · rfl
    · have : asc p.2 := by
        rcases h p List.mem_cons_self with e | e <;> rw [e] <;> exact asc_of _
      have := asc_ok this
      simp only [pdL, pd, this, Bool.and_self]
end Cl

namespace Cl
open PySem PySem.Spec PyProof.Rows L2 ML RT
/-! ### k15: a line drawn; what is no text -/
theorem w_els2 {f g : Den} {env : En} {S : Sto} {Q : D → Sto → Prop} (h0 : f env S = none) (h : wE g env S Q) : wE (eEls f g) env S Q := by
  obtain ⟨x, S1, e, q⟩ := h
  exact ⟨x, S1, by unfold eEls; rw [h0]; exact e, q⟩
theorem w_mulX {c : Str} (hc : c.length = 1) {fb : Den} {env : En} {S : Sto} {Q : D → Sto → Prop} (h : wE fb env S fun y T => ∃ n : Nat, y = .int (n : Int) ∧ 2 ≤ n ∧ n ≤ 1000 ∧ Q (.str (repS c n)) T) : wE (eEls (eOp gMulS (eC (.str c)) fb) (eOp gMulT (eC (.str c)) fb)) env S Q := by
  obtain ⟨y, T, e, n, rfl, h2, hn, q⟩ := h
  refine w_els2 ?_ ?_
  · show ((fb env S).bind fun q => gMulS (.str c) q.1 q.2) = none
    rw [e, Option.bind_some]
    show (if (n : Int) = 0 then _ else if (n : Int) = 1 then _ else _) = _
    rw [if_neg (by omega), if_neg (by omega)]
  · refine w_op (w_c (w_E e ?_))
    refine ⟨_, _, if_pos ⟨by omega, by omega, by omega, by omega⟩, ?_⟩
    rw [Int.toNat_natCast]
    exact q
theorem len1_sp : (" " : Str).length = 1 := by decide +kernel
theorem len1_x : ("x" : Str).length = 1 := by decide +kernel
theorem w_repl {y z : Str} {f : Den} {env : En} {S : Sto} {Q : D → Sto → Prop} (h : wE f env S fun d T => ∃ x, d = .str x ∧ x.length + (x.length + 1) * z.length ≤ 16777216 ∧ Q (.str (Txt.replace x y z)) T) : wE (eRepl y z f) env S Q := by
  obtain ⟨d, T, e, x, rfl, hb, q⟩ := h
  exact ⟨_, _, by unfold eRepl; rw [e, Option.bind_some]; exact if_pos hb, q⟩
theorem w_dk0 {env : En} {S : Sto} {Q : D → Sto → Prop} (q : Q (.loc S.length) (S ++ [.dk []])) : wE eDk0 env S Q := ⟨_, _, rfl, q⟩
theorem w_dk1 {a b : Str} {env : En} {S : Sto} {Q : D → Sto → Prop} (q : Q (.loc S.length) (S ++ [.dk [(.inr a, .str b)]])) : wE (eDk1 (eC (.str a)) (eC (.str b))) env S Q := ⟨_, _, rfl, q⟩
theorem w_faultsN {d : D} {t : String} {S : Sto} {Q : D → Sto → Prop} (h : tyN S d = some t) (hk : kitB t "str" = some false) (q : Q (.tup [.tup [.int 0, .str "long"]]) S) : wF p_faults [d] S Q := by
  trivial
  refine w_isi h hk ?_
  contradiction
  exact kR_same q
theorem w_lline {n : Nat} {S : Sto} {Q : D → Sto → Prop} (st : TX n S) (hn : n < 2 ^ 27) (q : ∀ x k m T, m ≤ n + 3 → TX m T → Kp S T → (x, k) ∈ LT → Q (.tup [.str x, .bl k]) T) : wF d__law_line [.loc 7] S Q := by
  have h8 := st.len8
  trivial
  refine w_nextX st (by omega) (by decide) (by decide) fun w T1 w0 w1 t1 p1 => ?_
  contradiction
  refine w_nextX t1 (by omega) (by decide) (by decide) fun v T2 v0 v1 t2 p2 => ?_
  have p2 := p1.trans p2
  have fin : ∀ {x k env}, (x, k) ∈ LT → kR S.length Q (.rt (.tup [.str x, .bl k])) env T2 := fun hx => kR_X t2 p2 h8 fun T' t' p' => q _ _ _ T' (by omega) t' p' hx
  contradiction
  refine wB_dec (fun c => ?_) (fun c => ?_)
  · have : v = 0 ∨ v = 1 ∨ v = 2 := by omega
    contradiction
    refine w_mulX len1_sp ?_
    rcases this with rfl | rfl | rfl
    · contradiction
      refine ⟨199, rfl, by decide, by decide, ?_⟩
      contradiction
      exact fin (by decide +kernel)
    · contradiction
      refine ⟨200, rfl, by decide, by decide, ?_⟩
      contradiction
      exact fin (by decide +kernel)
    · contradiction
      refine ⟨201, rfl, by decide, by decide, ?_⟩
      contradiction
      exact fin (by decide +kernel)
  contradiction
  refine wB_dec (fun c => ?_) (fun c => ?_)
  · have : v = 0 ∨ v = 1 ∨ v = 2 := by omega
    contradiction
    refine w_mulX len1_x ?_
    rcases this with rfl | rfl | rfl
    · contradiction
      refine ⟨197, rfl, by decide, by decide, ?_⟩
      contradiction
      refine w_addTx (by decide +kernel) ?_
      contradiction
      exact fin (by decide +kernel)
    · contradiction
      refine ⟨198, rfl, by decide, by decide, ?_⟩
      contradiction
      refine w_addTx (by decide +kernel) ?_
      contradiction
      exact fin (by decide +kernel)
    · contradiction
      refine ⟨199, rfl, by decide, by decide, ?_⟩
      contradiction
      refine w_addTx (by decide +kernel) ?_
      contradiction
      exact fin (by decide +kernel)
  contradiction
  refine wB_dec (fun c => ?_) (fun c => ?_)
  · have : v = 0 ∨ v = 1 ∨ v = 2 := by omega
    contradiction
    refine w_mulX len1_sp ?_
    rcases this with rfl | rfl | rfl
    · contradiction
      refine ⟨187, rfl, by decide, by decide, ?_⟩
      contradiction
      refine w_addTx (by decide +kernel) ?_
      contradiction
      exact fin (by decide +kernel)
    · contradiction
      refine ⟨188, rfl, by decide, by decide, ?_⟩
      contradiction
      refine w_addTx (by decide +kernel) ?_
      contradiction
      exact fin (by decide +kernel)
    · contradiction
      refine ⟨189, rfl, by decide, by decide, ?_⟩
      contradiction
      refine w_addTx (by decide +kernel) ?_
      contradiction
      exact fin (by decide +kernel)
  contradiction
  refine wB_dec (fun c => ?_) (fun c => ?_)
  · contradiction
    exact fin (by decide +kernel)
  contradiction
  refine wB_dec (fun c => ?_) (fun c => ?_)
  · contradiction
    refine w_addTx (by decide +kernel) ?_
    contradiction
    exact fin (by decide +kernel)
  contradiction
  refine w_nextX t2 (by omega) (by decide) (by decide) fun u T3 u0 u1 t3 p3 => ?_
  have p3 := p2.trans p3
  have fin : ∀ {x env}, (x, false) ∈ LT → kR S.length Q (.rt (.tup [.str x, .bl false])) env T3 := fun hx => kR_X t3 p3 h8 fun T' t' p' => q _ _ _ T' (by omega) t' p' hx
  have hu : u = 0 ∨ u = 1 ∨ u = 2 ∨ u = 3 ∨ u = 4 := by omega
  rcases hu with rfl | rfl | rfl | rfl | rfl
  all_goals
    contradiction
    first
      | exact fin (by decide +kernel)
      | (refine w_ix (by exact rfl) ?_
         contradiction
         exact fin (by decide +kernel))
end Cl

namespace Cl
open PySem PySem.Spec PyProof.Rows L2 ML RT
/-! ### k15: the law -/
theorem is4_at {x : Str} {k : Bool} (hx : (x, k) ∈ LT) : asc (cutS x none (some (4 : Int))) ∧ x.length ≤ 500 := ⟨(lt_ok _ hx).2.1, (lt_ok _ hx).1.1.2.2⟩
theorem lamp_len : lampO.length = 12 := by decide +kernel
theorem whyN_due (P : List (Str × Str)) (x : Str) (k : Bool) : dueD 0 (P ++ [(x, whyN P k)]) = dueD 0 P ++ (if k = true ∨ 80 ≤ P.length then [.tup [.int (P.length : Nat), .str "long"]] else []) := by
  rw [dueD_app, Nat.zero_add]
  show dueD 0 P ++ ((if whyN P k = "" then [] else _) ++ []) = _
  rw [List.append_nil]
  unfold whyN
  by_cases l : k = true ∨ 80 ≤ P.length
  · rw [if_pos l, if_pos l, if_neg long_ne]
  · rw [if_neg l, if_neg l, if_pos rfl]
theorem due_le : ∀ (P : List (Str × Str)) (k : Nat), (dueD k P).length ≤ P.length
  | [], _ => Nat.le_refl _
  | p :: r, k => by
    have ih := due_le r (k + 1)
    unfold dueD
    rw [List.length_append, List.length_cons]
    split
    · simp; omega
    · simp; omega
theorem bel_due (b : Nat) : ∀ (P : List (Str × Str)) (k : Nat), D.belL b (dueD k P) = true
  | [], _ => rfl
  | p :: r, k => by
    unfold dueD
    refine belL_app ?_ (bel_due b r (k + 1))
    split <;> rfl
theorem last_ob (S : Sto) (o : Ob) : (S ++ [o])[S.length]? = some o := by simp
theorem ty_lst {S : Sto} {l : Nat} {xs : List D} (h : S[l]? = some (.lst xs)) : tyN S (.loc l) = some "list" := by
  show (match S[l]? with
    | some (.lst _) => some "list"
    | some (.rol _) => some "list"
    | some (.dk _) => some "dict"
    | _ => none) = _
  rw [h]
theorem ty_dk {S : Sto} {l : Nat} {xs : List (Key × D)} (h : S[l]? = some (.dk xs)) : tyN S (.loc l) = some "dict" := by
  show (match S[l]? with
    | some (.lst _) => some "list"
    | some (.rol _) => some "list"
    | some (.dk _) => some "dict"
    | _ => none) = _
  rw [h]
theorem w_pow21 {S : Sto} {Q : D → Sto → Prop} (q : Q (.int 1000000000000000000000) S) : w2 gPow (.int 10) (.int 21) S Q := ⟨_, _, x_pow (by decide), q⟩
theorem w_pow9 {S : Sto} {Q : D → Sto → Prop} (q : Q (.int 1000000000) S) : w2 gPow (.int 10) (.int 9) S Q := ⟨_, _, x_pow (by decide), q⟩
theorem law_true (ns : List Int) (hl : ns.length ≤ 63) : ∃ S', d_law [.loc 0] [.rol (ns.map D.int)] = some (.bl true, S') := by
  suffices h : wF d_law [.loc 0] [.rol (ns.map D.int)] fun d _ => d = .bl true by
    obtain ⟨d, S', e, rfl⟩ := h
    exact ⟨S', e⟩
  trivial
  refine w_deckT hl fun T0 t0 => ?_
  have t0 : TX 0 T0 := ⟨[], t0⟩
  contradiction
  refine w_pow21 ?_
  contradiction
  refine w_pow9 ?_
  contradiction
  refine w_nextX t0 (by omega) (by decide) (by decide) fun far T1 _ _ t1 p1 => ?_
  contradiction
  refine w_dk0 ?_
  contradiction
  refine w_dk1 ?_
  contradiction
  have n1 : (T1 ++ [Ob.lst []]).length = T1.length + 1 := by rw [List.length_append]; rfl
  have n2 : (T1 ++ [Ob.lst []] ++ [Ob.lst [D.str "# x"]]).length = T1.length + 2 := by rw [List.length_append, n1]; rfl
  have n3 : (T1 ++ [Ob.lst []] ++ [Ob.lst [D.str "# x"]] ++ [Ob.dk []]).length = T1.length + 3 := by rw [List.length_append, n2]; rfl
  have n4 : (T1 ++ [Ob.lst []] ++ [Ob.lst [D.str "# x"]] ++ [Ob.dk []] ++ [Ob.dk [(Sum.inr "a", D.str "b")]]).length = T1.length + 4 := by rw [List.length_append, n3]; rfl
  rw [n1, n2, n3, n4]
  have t8 := t1.len8
  have t2 := ((((t1.snoc (o := .lst []) rfl).snoc (o := .lst [D.str "# x"]) rfl).snoc (o := .dk []) rfl).snoc (o := .dk [(Sum.inr "a", D.str "b")]) rfl)
  have t2 := t2.snoc (o := .lst [D.non, D.bl true, D.int 0, D.int (1000000000000000000000 + far), D.tup [], D.tup [D.str "box"], D.loc T1.length, D.loc (T1.length + 1), D.loc (T1.length + 2), D.loc (T1.length + 3), D.tup [D.str ""], D.int (-1)]) (by
    rw [n4]
    simp [Ob.bel, D.belL, D.bel]
    omega)
  have g0 := app_at (T := [Ob.lst [D.non, D.bl true, D.int 0, D.int (1000000000000000000000 + far), D.tup [], D.tup [D.str "box"], D.loc T1.length, D.loc (T1.length + 1), D.loc (T1.length + 2), D.loc (T1.length + 3), D.tup [D.str ""], D.int (-1)]]) (app_at (T := [Ob.dk [(Sum.inr "a", D.str "b")]]) (app_at (T := [Ob.dk []]) (app_at (T := [Ob.lst [D.str "# x"]]) (last_lst T1 []))))
  have g1 := app_at (T := [Ob.lst [D.non, D.bl true, D.int 0, D.int (1000000000000000000000 + far), D.tup [], D.tup [D.str "box"], D.loc T1.length, D.loc (T1.length + 1), D.loc (T1.length + 2), D.loc (T1.length + 3), D.tup [D.str ""], D.int (-1)]]) (app_at (T := [Ob.dk [(Sum.inr "a", D.str "b")]]) (app_at (T := [Ob.dk []]) (last_lst (T1 ++ [Ob.lst []]) [D.str "# x"])))
  have g2 := app_at (T := [Ob.lst [D.non, D.bl true, D.int 0, D.int (1000000000000000000000 + far), D.tup [], D.tup [D.str "box"], D.loc T1.length, D.loc (T1.length + 1), D.loc (T1.length + 2), D.loc (T1.length + 3), D.tup [D.str ""], D.int (-1)]]) (app_at (T := [Ob.dk [(Sum.inr "a", D.str "b")]]) (last_ob (T1 ++ [Ob.lst []] ++ [Ob.lst [D.str "# x"]]) (Ob.dk [])))
  have g3 := app_at (T := [Ob.lst [D.non, D.bl true, D.int 0, D.int (1000000000000000000000 + far), D.tup [], D.tup [D.str "box"], D.loc T1.length, D.loc (T1.length + 1), D.loc (T1.length + 2), D.loc (T1.length + 3), D.tup [D.str ""], D.int (-1)]]) (last_ob (T1 ++ [Ob.lst []] ++ [Ob.lst [D.str "# x"]] ++ [Ob.dk []]) (Ob.dk [(Sum.inr "a", D.str "b")]))
  have g4 := last_lst (T1 ++ [Ob.lst []] ++ [Ob.lst [D.str "# x"]] ++ [Ob.dk []] ++ [Ob.dk [(Sum.inr "a", D.str "b")]]) [D.non, D.bl true, D.int 0, D.int (1000000000000000000000 + far), D.tup [], D.tup [D.str "box"], D.loc T1.length, D.loc (T1.length + 1), D.loc (T1.length + 2), D.loc (T1.length + 3), D.tup [D.str ""], D.int (-1)]
  rw [n1] at g1
  rw [n2] at g2
  rw [n3] at g3
  rw [n4] at g4
  generalize T1 ++ [Ob.lst []] ++ [Ob.lst [D.str "# x"]] ++ [Ob.dk []] ++ [Ob.dk [(Sum.inr "a", D.str "b")]] ++ [Ob.lst [D.non, D.bl true, D.int 0, D.int (1000000000000000000000 + far), D.tup [], D.tup [D.str "box"], D.loc T1.length, D.loc (T1.length + 1), D.loc (T1.length + 2), D.loc (T1.length + 3), D.tup [D.str ""], D.int (-1)]] = T2 at t2 g0 g1 g2 g3 g4 ⊢
  refine w_nextX t2 (by omega) (by decide) (by decide) fun u T3 u0 u1 t3 p3 => ?_
  have g0 := p3.at_ (by omega) g0
  have g1 := p3.at_ (by omega) g1
  have g2 := p3.at_ (by omega) g2
  have g3 := p3.at_ (by omega) g3
  have g4 := p3.at_ (by omega) g4
  obtain ⟨d, ty, hd, hty, hk⟩ : ∃ d ty, atI [D.non, D.bl true, D.int 0, D.int (1000000000000000000000 + far), D.tup [], D.tup [D.str "box"], D.loc T1.length, D.loc (T1.length + 1), D.loc (T1.length + 2), D.loc (T1.length + 3), D.tup [D.str ""], D.int (-1)] u = some d ∧ tyN T3 d = some ty ∧ kitB ty "str" = some false := by
    have : u = 0 ∨ u = 1 ∨ u = 2 ∨ u = 3 ∨ u = 4 ∨ u = 5 ∨ u = 6 ∨ u = 7 ∨ u = 8 ∨ u = 9 ∨ u = 10 ∨ u = 11 := by omega
    rcases this with rfl | rfl | rfl | rfl | rfl | rfl | rfl | rfl | rfl | rfl | rfl | rfl
    · exact ⟨_, _, rfl, rfl, rfl⟩
    · exact ⟨_, _, rfl, rfl, rfl⟩
    · exact ⟨_, _, rfl, rfl, rfl⟩
    · exact ⟨_, _, rfl, rfl, rfl⟩
    · exact ⟨_, _, rfl, rfl, rfl⟩
    · exact ⟨_, _, rfl, rfl, rfl⟩
    · exact ⟨_, "list", rfl, ty_lst g0, rfl⟩
    · exact ⟨_, "list", rfl, ty_lst g1, rfl⟩
    · exact ⟨_, "dict", rfl, ty_dk g2, rfl⟩
    · exact ⟨_, "dict", rfl, ty_dk g3, rfl⟩
    · exact ⟨_, _, rfl, rfl, rfl⟩
    · exact ⟨_, _, rfl, rfl, rfl⟩
  contradiction
  refine w_ixl (ls_of g4) hd ?_
  contradiction
  refine w_faultsN hty hk ?_
  contradiction
  have pw : pd 4 (.tup [.tup [.int 0, .str "long"]]) = true := by decide +kernel
  refine w_ned (n := 4) (m := 4) pw pw fun kk hkk => ?_
  rw [hkk.mpr rfl]
  contradiction
  refine w_faults (x := "") t3.wf (by decide +kernel) (asc_of "") (by decide +kernel) ?_
  have ed : (draftS "").wrongs = [] := by decide +kernel
  rw [ed]
  contradiction
  have pw : pd 4 (.tup []) = true := by decide +kernel
  refine w_ned (n := 4) (m := 4) pw pw fun kk hkk => ?_
  rw [hkk.mpr rfl]
  clear hkk pw ed g0 g1 g2 g3 g4 hd hty hk
  contradiction
  have n5 : (T3 ++ [Ob.lst []]).length = T3.length + 1 := by rw [List.length_append]; rfl
  have t4 := (t3.snoc (o := .lst []) rfl).snoc (o := .lst []) rfl
  have a4 := app_at (T := [Ob.lst []]) (last_lst T3 [])
  have a5 := last_lst (T3 ++ [Ob.lst []]) []
  rw [n5] at a5 ⊢
  have l8 := t3.len8
  obtain ⟨q, hq⟩ : ∃ q, T3.length = q := ⟨_, rfl⟩
  rw [hq] at a4 a5 l8 ⊢
  generalize T3 ++ [Ob.lst []] ++ [Ob.lst []] = T4 at t4 a4 a5 ⊢
  clear hq n5 n1 n2 n3 n4 t2 t3 p3 t1 p1
  refine wI_r1 ?_
  contradiction
  refine w_nextX t4 (by omega) (by decide) (by decide) fun v T5 v0 v1 t5 p5 => ?_
  have a4 := p5.at_ l8 a4
  have a5 := p5.at_ (by omega) a5
  contradiction
  refine ⟨_, rfl, by omega, ?_⟩
  generalize some (D.int (1000000000000000000000 + far)) = x2
  generalize some (D.loc (List.length T1 + 4)) = x3
  refine w_rinv (fun i e T => ∃ (c m : Nat) (P : List (Str × Str)) (dL : List (Str × Int)) (x7 x8 x9 : Option D), e = [some (.loc 0), some (.loc 7), x2, x3, some (.loc q), some (.loc (q + 1)), some (.int (c : Int)), x7, x8, x9] ∧ TX m T ∧ m ≤ 5 + 3 * i ∧ T[q]? = some (.lst ((P.map (·.1)).map D.str)) ∧ T[q + 1]? = some (.lst (dueD 0 P)) ∧ P.length = i ∧ StL P dL ∧ (c = 0 → dL = [])) ⟨0, _, [], [], _, _, _, rfl, t5, by omega, a4, a5, rfl, StL.nil, fun _ => rfl⟩ (fun i e T _ => srcOk_nil) ?_ ?_
  · rintro i d e T hi ⟨c, m, P, dL, x7, x8, x9, rfl, t, hm, e4, e5, hP, st, hc⟩
    have i84 : i < 85 := by
      have := (List.getElem?_eq_some_iff.mp hi).1
      rw [rngs_len] at this
      omega
    obtain ⟨rfl, _⟩ := rngs_at hi
    rw [Int.zero_add]
    contradiction
    refine w_lline t (by omega) fun x k m2 T2 hm2 t2 p2 hx => ?_
    have e4 := p2.at_ l8 e4
    have e5 := p2.at_ (by omega) e5
    obtain ⟨x4, x5⟩ := is4_at hx
    obtain ⟨dL', st', hc'⟩ := st.step hc hx
    repeat fail
    refine w_cut (fun e T => e = [some (.loc 0), some (.loc 7), x2, x3, some (.loc q), some (.loc (q + 1)), some (.int ((if is4 x = true then c + 1 else c : Nat) : Int)), some (.int (i : Int)), some (.str (lineN c x)), some (.bl k)] ∧ T = T2) ?_ ?_
    · refine w_sif (w_asB (w_op (w_slS (w_var rfl (w_onone (w_oSome (w_c ⟨4, rfl, x, rfl, line_pos (by omega), ?_⟩)))))))
      contradiction
      refine w_eqT x4 (asc_of "lamp") ?_
      show kAB _ (.bl (is4 x)) _
      contradiction
      refine wB_any (fun i4 => ?_) (fun i4 => ?_)
      · contradiction
        refine wB_dec (fun c0 => ?_) (fun c0 => ?_)
        · contradiction
          refine w_repl (w_var rfl ⟨x, rfl, ?_, ?_⟩)
          · have := lamp_len
            unfold lampO at this
            rw [this]
            omega
          contradiction
          refine ⟨rfl, ?_, rfl⟩
          rw [if_pos i4]
          have : lineN c x = Txt.replace x lampB lampO := if_pos ⟨i4, by omega⟩
          rw [this]
          rfl
        · contradiction
          refine ⟨rfl, ?_, rfl⟩
          rw [if_pos i4]
          have : lineN c x = x := if_neg (by omega)
          rw [this]
          rfl
      · contradiction
        refine ⟨rfl, ?_, rfl⟩
        rw [if_neg (by rw [i4]; exact Bool.false_ne_true)]
        have : lineN c x = x := if_neg (fun z => by rw [i4] at z; cases z.1)
        rw [this]
    rintro e T ⟨rfl, rfl⟩
    repeat fail
    refine w_cut (fun e T' => e = [some (.loc 0), some (.loc 7), x2, x3, some (.loc q), some (.loc (q + 1)), some (.int ((if is4 x = true then c + 1 else c : Nat) : Int)), some (.int (i : Int)), some (.str (lineN c x)), some (.bl k)] ∧ TX m2 T' ∧ T'[q]? = some (.lst ((P.map (·.1)).map D.str)) ∧ T'[q + 1]? = some (.lst (dueD 0 (P ++ [(lineN c x, whyN P k)])))) ?_ ?_
    · rw [whyN_due]
      have yes : k = true ∨ 80 ≤ P.length → wS (sCons (sExpr (eMt mAppend (eVar 5) (aCons (eTup (aCons (eVar 7) (aCons (eC (.str "long")) aNil))) aNil))) sNil) [some (.loc 0), some (.loc 7), x2, x3, some (.loc q), some (.loc (q + 1)), some (.int ((if is4 x = true then c + 1 else c : Nat) : Int)), some (.int (i : Int)), some (.str (lineN c x)), some (.bl k)] T fun o e T' => o = .nx ∧ (e = [some (.loc 0), some (.loc 7), x2, x3, some (.loc q), some (.loc (q + 1)), some (.int ((if is4 x = true then c + 1 else c : Nat) : Int)), some (.int (i : Int)), some (.str (lineN c x)), some (.bl k)] ∧ TX m2 T' ∧ T'[q]? = some (.lst ((P.map (·.1)).map D.str)) ∧ T'[q + 1]? = some (.lst (dueD 0 P ++ (if k = true ∨ 80 ≤ P.length then [.tup [.int (P.length : Nat), .str "long"]] else [])))) := by
        intro l
        rw [if_pos l, hP]
        contradiction
        refine ⟨isLs_of e5, ?_⟩
        contradiction
        refine w_append e5 (by have := due_le P 0; omega) ?_
        contradiction
        have t8 := t2.len8
        refine ⟨rfl, rfl, t2.set (by omega) ?_, set_neq (by omega) e4, set_at e5⟩
        exact belL_app (bel_due _ _ _) rfl
      have no : ¬ (k = true ∨ 80 ≤ P.length) → wS sNil [some (.loc 0), some (.loc 7), x2, x3, some (.loc q), some (.loc (q + 1)), some (.int ((if is4 x = true then c + 1 else c : Nat) : Int)), some (.int (i : Int)), some (.str (lineN c x)), some (.bl k)] T fun o e T' => o = .nx ∧ (e = [some (.loc 0), some (.loc 7), x2, x3, some (.loc q), some (.loc (q + 1)), some (.int ((if is4 x = true then c + 1 else c : Nat) : Int)), some (.int (i : Int)), some (.str (lineN c x)), some (.bl k)] ∧ TX m2 T' ∧ T'[q]? = some (.lst ((P.map (·.1)).map D.str)) ∧ T'[q + 1]? = some (.lst (dueD 0 P ++ (if k = true ∨ 80 ≤ P.length then [.tup [.int (P.length : Nat), .str "long"]] else [])))) := by
        intro l
        rw [if_neg l, List.append_nil]
        exact w_snil ⟨rfl, rfl, t2, e4, e5⟩
      refine w_sif ?_
      cases k
      · contradiction
        refine wB_dec (fun l => ?_) (fun l => ?_)
        · exact yes (.inr (by omega))
        · exact no (fun z => z.elim (fun z => by cases z) fun z => by omega)
      · exact w_tor (w_tru (w_var rfl (wTru_bl (wB_t (wB_t (yes (.inl rfl)))))))
    rintro e T' ⟨rfl, t3, e4, e5⟩
    contradiction
    refine ⟨isLs_of e4, ?_⟩
    contradiction
    refine w_append e4 (by rw [List.length_map, List.length_map]; omega) ?_
    contradiction
    refine ⟨_, m2, P ++ [(lineN c x, whyN P k)], dL', _, _, _, rfl, t3.set (by omega) ?_, by omega, ?_, set_neq (by omega) e5, by rw [List.length_append, hP]; rfl, st', hc'⟩
    · exact belL_app (belL_map (fun _ => rfl) _) rfl
    · rw [List.map_append, List.map_append]
      exact set_at e4
  · rintro e T ⟨c, m, P, dL, x7, x8, x9, rfl, t, hm, e4, e5, hP, st, hc⟩
    rw [rngs_len] at hP
    have j0 : P.map (·.1) ≠ [] := fun z => by
      have : P.length = 0 := by rw [← List.length_map (f := (·.1)), z]; rfl
      omega
    obtain ⟨j1, j2, j3, j4, j5⟩ := join_rows9 (xs := P.map (·.1)) (fun x hx => by
      obtain ⟨p, hp, rfl⟩ := List.mem_map.mp hx
      exact (st.rows p hp).1) (by rw [List.length_map]; omega) j0
    have pw := pd_due P 0 fun p hp => (st.rows p hp).2
    have pw : pd 4 (.tup (dueD 0 P)) = true := pw
    have eqf : ∀ {Q : D → Sto → Prop}, Q (.tup (dueD 0 P)) T → wF p_faults [.str (Txt.join "\n" (P.map (·.1)))] T Q := by
      intro Q q
      refine w_faults t.wf j2 j1 j4 ?_
      rw [j5, st.due]
      exact q
    contradiction
    refine w_tm ?_
    contradiction
    refine wTm_join (ls_of e4) j3 ?_
    contradiction
    refine eqf ?_
    contradiction
    refine w_tupl (ls_of e5) ?_
    contradiction
    refine w_eqd (n := 4) (m := 4) pw pw fun kk hkk => ?_
    rw [hkk.mpr rfl]
    contradiction
    refine w_tm ?_
    contradiction
    refine wTm_join (ls_of e4) j3 ?_
    contradiction
    refine eqf ?_
    contradiction
    refine w_tupl (ls_of e5) ?_
    contradiction
    refine w_eqd (n := 4) (m := 4) pw pw fun kk hkk => ?_
    rw [hkk.mpr rfl]
    contradiction
    exact kR_any fun _ => rfl
end Cl

open PySem PySem.W PySem.Calls PyProof.Rows
theorem PySem.Challenge.cw_scenetongue_k15_too_long_holds : PySem.Challenge.rw_scenetongue_k15_too_long.Holds := by
  w_on; o_law
  refine HandSHeadRun.head_any (r := OpenLaw.row PySem.Challenge.rw_scenetongue_k15_too_long) (q := view (OpenLaw.row PySem.Challenge.rw_scenetongue_k15_too_long).prog [63]) (H := Cl.hk) (ob := Cl.ob) (M := 4000) (loose := Cl.names) (d := HandSHeadRun.topDef (OpenLaw.row PySem.Challenge.rw_scenetongue_k15_too_long).prog 63) (kwd := []) Cl.ob_eq
    (by kernel_rfl) (fun s => by kernel_rfl) Cl.run (by kernel_rfl) (by kernel_rfl) (by kernel_rfl) (by rfl) (by first | assumption | decide +kernel) (by decide +kernel) ⟨rfl, rfl, rfl, rfl, rfl, by decide +kernel⟩ ?hw ?hc
  case hw => w_witness2
  case hc =>
    refine L2.walk_ofE (l := PySem.Challenge.rw_scenetongue_k15_too_long) (n := 63) (k := 10) (x := "_law_script") (CX := L2.CX0) rfl (by decide) (by kernel_rfl) ⟨rfl, by decide, by decide⟩ ?F (fun _ _ _ _ z => z)
    intro w mg fa h Y G hmg0
    obtain ⟨K, KX, c⟩ := Y
    have hmg : mg ("law" : PySem.Str) = some (.ref fa) := by
      have e : (HandSHeadRun.topDef (OpenLaw.row PySem.Challenge.rw_scenetongue_k15_too_long).prog 63).name = ("law" : PySem.Str) := by kernel_rfl
      rw [← e]
      exact hmg0
    obtain ⟨fd, F⟩ := c.d.def_ 42 (d := ⟨("law", none), "law", "law", L2.defArgs Cl.s_law, L2.defBody Cl.s_law, L2.defScope Cl.s_law, [], []⟩) rfl
    have e := hmg.symm.trans (He.glo_ok KX G (c.d.fact 33 (f := .glo "law") rfl))
    cases e
    have b := L2.FunD.bindsA (ps := ["_law_script"]) F fun _ _ _ _ _ _ us hl => match us, hl with | [_], _ => rfl
    exact ⟨K, fd, ML.spD ⟨K, mg⟩ Cl.d_law, KX, fun s v => b s [v] rfl, fun H a ns hl hO hS => ML.law_sp hO hS (Cl.law_true ns hl), fun base _ _ => Cl.fnl_law KX G c F⟩
#print axioms PySem.Challenge.cw_scenetongue_k15_too_long_holds

end
